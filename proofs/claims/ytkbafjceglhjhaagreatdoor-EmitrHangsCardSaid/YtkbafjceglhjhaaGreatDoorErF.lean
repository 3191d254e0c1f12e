/-
  Layer 12: the law EmitrHangs, the walk: a thread's code gone through, instruction by instruction. No conditions.
-/
import Derived.Test.YtkbafjceglhjhaaGreatDoorErD
namespace Go.Proofs.YtkbafjceglhjhaaGreatDoor.Er
open Go.Sy Go Go.Proofs.YtkbafjceglhjhaaGreatDoor.Ed Go.Proofs.YtkbafjceglhjhaaGreatDoor.Sh
open Int (ofNat)
set_option maxRecDepth 100000
set_option maxHeartbeats 1000000
theorem eQ (b:Bool):Hu b b=true:=by cases b <;> rfl
structure A6 where
 c:Int
 m:Int
 b:Int
 q:Int
section
variable (s:Sh7)
def x1 (q:Int):Int:=wr .i64 (Ah q (ofNat s.nx))
def x2 (q:Int):Int:=wr .i64 (Bn (x1 s q) 1)
def x3 (q:Int):Int:=Al (x2 s q) (ofNat s.nx)
def pe6 (q:Int):E6:=s.E (toN (x3 s q))
def pr6 (q:Int):Int:=rg9 s (toN (x3 s q))
def I6 (u i:Nat):In8:=Afp (cdL s s.nx u) i
def CQ (u:Nat) (c:Int) (a:A6):St:=⟨jsV 163 0 Ac [(1,.ptr 0 0),(3,.jref 1),(5,.ref 2),(9,iV (ofNat s.nx)),(10,iV a.b),(11,iV a.q),(12,nV u),(13,iV a.c),(14,iV a.m),(15,iV c)],[.cells [iV s.arch,.sl 6 s.ne (λi=>eV (s.E i)),.sl 5 s.nx (λi=>evV (s.X i)),iV s.tt,iV s.kk,.sl 1 s.nr (λi=>iV (s.R i)),.sl 1 s.nc (λu=>.sl 1 (s.C u).1 (λi=>iV ((s.C u).2 i)))],codJ s,.row 3 1 s.nx (λk=>iV (rg9 s k))]⟩
def YX (u:Nat) (a:A6):Ex×St:=(.ex 2,⟨jsV 163 0 Ac [(1,.ptr 0 0),(3,.jref 1),(5,.ref 2),(9,iV (ofNat s.nx)),(10,iV a.b),(11,iV a.q),(12,nV u)],[.cells [iV s.arch,.sl 6 s.ne (λi=>eV (s.E i)),.sl 5 s.nx (λi=>evV (s.X i)),iV s.tt,iV s.kk,.sl 1 s.nr (λi=>iV (s.R i)),.sl 1 s.nc (λu=>.sl 1 (s.C u).1 (λi=>iV ((s.C u).2 i)))],codJ s,.row 3 1 s.nx (λk=>iV (rg9 s k))]⟩)
end
def ET:Lp:=⟨bmK 163 0 [1,3,5,9,10,11,12,13,14,15],3,bmK 163 0 [1,3,5,9,10,11,12],3,4611686018427387905⟩
noncomputable def tb6:AK:=(9,shT Zx)::(11,shT rgC)::(10,shT rcC)::(25,AeT)::[]
noncomputable def B6 (id:Nat) (L:LT):St->T (Ex×St):=λst=>AI tab ⟨Az tb6,L,Gl⟩ (A0 Tryz.f6 id) id st
section
variable (L:LT)
include L
theorem w6b {s:Sh7} {u i:Nat} {a:A6} (hu:u<toN s.tt) (hi:i<Cz (cdL s s.nx u)) (o11:ieq (I6 s u i).op 11=true) (o9:ieq (I6 s u i).op 9=false) (o6:ieq (I6 s u i).op 6=false) (o7:ieq (I6 s u i).op 7=false):Au (B6 2 L) ET (CQ s u (ofNat i) a)=some (Ex.nm,CQ s u (wr .i64 (Ah (ofNat i) 1)) ⟨(I6 s u i).a,a.m,wr .i64 (Ah a.b 1),a.q⟩) :=
 DK.ok (C:=.leaf ()) (L:=λ_=>(Ex.nm,CQ s u (wr .i64 (Ah (ofNat i) 1)) ⟨(I6 s u i).a,a.m,wr .i64 (Ah a.b 1),a.q⟩)) (.k (Ae hu) <| .k (decide_eq_true hu) <| .r 2 eT <| .k (ofNat_lt hi) <| .k (Ae hu) <| .k (decide_eq_true hu) <| .r 2 eT <| .k (Ae hi) <| .k eT <| .k (decide_eq_true hi) <| .k o11 <| .r 6 o9 <| .k eF <| .r 4 (eN o6) <| .k (eN o7) <| .l) (by kernel_rfl) rfl
theorem w6x {s:Sh7} {u i:Nat} {a:A6} (hu:u<toN s.tt) (hi:i<Cz (cdL s s.nx u)) (o11:ieq (I6 s u i).op 11=false) (o9:ieq (I6 s u i).op 9=true) (o6:ieq (I6 s u i).op 6=false) (o7:ieq (I6 s u i).op 7=false) (hab:ieq (I6 s u i).a (I6 s u i).b=true):Au (B6 2 L) ET (CQ s u (ofNat i) a)=some (Ex.nm,CQ s u (wr .i64 (Ah (ofNat i) 1)) ⟨a.c,(I6 s u i).a,a.b,a.q⟩) :=
 DK.ok (C:=.leaf ()) (L:=λ_=>(Ex.nm,CQ s u (wr .i64 (Ah (ofNat i) 1)) ⟨a.c,(I6 s u i).a,a.b,a.q⟩)) (.k (Ae hu) <| .k (decide_eq_true hu) <| .r 2 eT <| .k (ofNat_lt hi) <| .k (Ae hu) <| .k (decide_eq_true hu) <| .r 2 eT <| .k (Ae hi) <| .k eT <| .k (decide_eq_true hi) <| .k o11 <| .r 6 o9 <| .k hab <| .r 4 (eN o6) <| .k (eN o7) <| .l) (by kernel_rfl) rfl
theorem w6o {s:Sh7} {u i:Nat} {a:A6} (hu:u<toN s.tt) (hi:i<Cz (cdL s s.nx u)) (o11:ieq (I6 s u i).op 11=false) (o9:ieq (I6 s u i).op 9=false) (o6:ieq (I6 s u i).op 6=false) (o7:ieq (I6 s u i).op 7=false):Au (B6 2 L) ET (CQ s u (ofNat i) a)=some (Ex.nm,CQ s u (wr .i64 (Ah (ofNat i) 1)) a) :=
 DK.ok (C:=.leaf ()) (L:=λ_=>(Ex.nm,CQ s u (wr .i64 (Ah (ofNat i) 1)) a)) (.k (Ae hu) <| .k (decide_eq_true hu) <| .r 2 eT <| .k (ofNat_lt hi) <| .k (Ae hu) <| .k (decide_eq_true hu) <| .r 2 eT <| .k (Ae hi) <| .k eT <| .k (decide_eq_true hi) <| .k o11 <| .r 6 o9 <| .k eF <| .r 4 (eN o6) <| .k (eN o7) <| .l) (by kernel_rfl) rfl
theorem Aga {s:Sh7} {u i:Nat} {a:A6} (hu:u<toN s.tt) (hi:i<Cz (cdL s s.nx u)) (o11:ieq (I6 s u i).op 11=false) (o9:ieq (I6 s u i).op 9=false) (o6:ieq (I6 s u i).op 6=true) (n0:ieq (ofNat s.nx) 0=false) (hq:ile (ofNat s.nx) a.q=false) (hE:Aj (ile 0 (x3 s a.q)) (ilt (x3 s a.q) (ofNat s.ne))=true) (hX:Aj (ile 0 (x3 s a.q)) (ilt (x3 s a.q) (ofNat s.nx))=true) (hN:nlt (toN (x3 s a.q)) s.nx=true) (k8:ieq (pe6 s a.q).kind 8=false) (k6:ieq (pe6 s a.q).kind 6=false) (k7:ieq (pe6 s a.q).kind 7=false) (hc:ile 0 a.c=false) (hm:ile 0 a.m=false):Au (B6 2 L) ET (CQ s u (ofNat i) a)=some (Ex.nm,CQ s u (wr .i64 (Ah (ofNat i) 1)) ⟨-1,-1,a.b,wr .i64 (Ah a.q 1)⟩) :=
 DK.ok (C:=.leaf ()) (L:=λ_=>(Ex.nm,CQ s u (wr .i64 (Ah (ofNat i) 1)) ⟨-1,-1,a.b,wr .i64 (Ah a.q 1)⟩)) (.k (Ae hu) <| .k (decide_eq_true hu) <| .r 2 eT <| .k (ofNat_lt hi) <| .k (Ae hu) <| .k (decide_eq_true hu) <| .r 2 eT <| .k (Ae hi) <| .k eT <| .k (decide_eq_true hi) <| .k o11 <| .r 6 o9 <| .k eF <| .r 4 (eN o6) <| .k eF <| .k hq <| .k n0 <| .k hE <| .k (eI a.q) <| .k (eI (ofNat s.nx)) <| .k (eI (x1 s a.q)) <| .k (eI (x2 s a.q)) <| .k (eI (ofNat s.nx)) <| .k n0 <| .k (eI (x3 s a.q)) <| .k (eI (pe6 s a.q).kind) <| .k (eQ (pe6 s a.q).ext) <| .k (eQ (pe6 s a.q).same) <| .k (eI (pe6 s a.q).src) <| .k (eI (pe6 s a.q).dst) <| .k (eI (pe6 s a.q).fence) <| .k (eI a.q) <| .k (eI (ofNat s.nx)) <| .k (eI (x1 s a.q)) <| .k (eI (x2 s a.q)) <| .k (eI (ofNat s.nx)) <| .k n0 <| .k (eI (x3 s a.q)) <| .k (eI (pe6 s a.q).kind) <| .k (eQ (pe6 s a.q).ext) <| .k (eQ (pe6 s a.q).same) <| .k (eI (pe6 s a.q).src) <| .k (eI (pe6 s a.q).dst) <| .k (eI (pe6 s a.q).fence) <| .k n0 <| .k hX <| .k hN <| .r 3 (eN (eB k8 hc)) <| .r 3 hc <| .k (eN (eB k8 hc)) <| .k hc <| .k (eN (eB k8 hc)) <| .k eF <| .r 4 k6 <| .r 3 (eN (eB k7 hm)) <| .r 3 hm <| .k (eN (eB k7 hm)) <| .k hm <| .k (eN (eB k7 hm)) <| .k eF <| .l) (by kernel_rfl) rfl
theorem Age {s:Sh7} {u i:Nat} {a:A6} (hu:u<toN s.tt) (hi:i<Cz (cdL s s.nx u)) (o11:ieq (I6 s u i).op 11=false) (o9:ieq (I6 s u i).op 9=false) (o6:ieq (I6 s u i).op 6=true) (n0:ieq (ofNat s.nx) 0=false) (hq:ile (ofNat s.nx) a.q=false) (hE:Aj (ile 0 (x3 s a.q)) (ilt (x3 s a.q) (ofNat s.ne))=true) (hX:Aj (ile 0 (x3 s a.q)) (ilt (x3 s a.q) (ofNat s.nx))=true) (hN:nlt (toN (x3 s a.q)) s.nx=true) (k8:ieq (pe6 s a.q).kind 8=true) (k6:ieq (pe6 s a.q).kind 6=false) (k7:ieq (pe6 s a.q).kind 7=false) (hc:ile 0 a.c=true) (hm:ile 0 a.m=false) (hr:ieq a.c (pr6 s a.q)=true):Au (B6 2 L) ET (CQ s u (ofNat i) a)=some (Ex.nm,CQ s u (wr .i64 (Ah (ofNat i) 1)) ⟨-1,-1,a.b,wr .i64 (Ah a.q 1)⟩) :=
 DK.ok (C:=.leaf ()) (L:=λ_=>(Ex.nm,CQ s u (wr .i64 (Ah (ofNat i) 1)) ⟨-1,-1,a.b,wr .i64 (Ah a.q 1)⟩)) (.k (Ae hu) <| .k (decide_eq_true hu) <| .r 2 eT <| .k (ofNat_lt hi) <| .k (Ae hu) <| .k (decide_eq_true hu) <| .r 2 eT <| .k (Ae hi) <| .k eT <| .k (decide_eq_true hi) <| .k o11 <| .r 6 o9 <| .k eF <| .r 4 (eN o6) <| .k eF <| .k hq <| .k n0 <| .k hE <| .k (eI a.q) <| .k (eI (ofNat s.nx)) <| .k (eI (x1 s a.q)) <| .k (eI (x2 s a.q)) <| .k (eI (ofNat s.nx)) <| .k n0 <| .k (eI (x3 s a.q)) <| .k (eI (pe6 s a.q).kind) <| .k (eQ (pe6 s a.q).ext) <| .k (eQ (pe6 s a.q).same) <| .k (eI (pe6 s a.q).src) <| .k (eI (pe6 s a.q).dst) <| .k (eI (pe6 s a.q).fence) <| .k (eI a.q) <| .k (eI (ofNat s.nx)) <| .k (eI (x1 s a.q)) <| .k (eI (x2 s a.q)) <| .k (eI (ofNat s.nx)) <| .k n0 <| .k (eI (x3 s a.q)) <| .k (eI (pe6 s a.q).kind) <| .k (eQ (pe6 s a.q).ext) <| .k (eQ (pe6 s a.q).same) <| .k (eI (pe6 s a.q).src) <| .k (eI (pe6 s a.q).dst) <| .k (eI (pe6 s a.q).fence) <| .k n0 <| .k hX <| .k hN <| .r 3 (eN (eB k8 hc)) <| .r 3 hc <| .k (eN (eB k8 hc)) <| .k hc <| .k (eN (eB k8 hc)) <| .k (eN hr) <| .r 4 k6 <| .r 3 (eN (eB k7 hm)) <| .r 3 hm <| .k (eN (eB k7 hm)) <| .k hm <| .k (eN (eB k7 hm)) <| .k eF <| .l) (by kernel_rfl) rfl
theorem Agg {s:Sh7} {u i:Nat} {a:A6} (hu:u<toN s.tt) (hi:i<Cz (cdL s s.nx u)) (o11:ieq (I6 s u i).op 11=false) (o9:ieq (I6 s u i).op 9=false) (o6:ieq (I6 s u i).op 6=true) (n0:ieq (ofNat s.nx) 0=false) (hq:ile (ofNat s.nx) a.q=false) (hE:Aj (ile 0 (x3 s a.q)) (ilt (x3 s a.q) (ofNat s.ne))=true) (hX:Aj (ile 0 (x3 s a.q)) (ilt (x3 s a.q) (ofNat s.nx))=true) (hN:nlt (toN (x3 s a.q)) s.nx=true) (k8:ieq (pe6 s a.q).kind 8=false) (k6:ieq (pe6 s a.q).kind 6=true) (hc:ile 0 a.c=false) (hm:ile 0 a.m=true) (hr:ieq a.m (pr6 s a.q)=true):Au (B6 2 L) ET (CQ s u (ofNat i) a)=some (Ex.nm,CQ s u (wr .i64 (Ah (ofNat i) 1)) ⟨-1,-1,a.b,wr .i64 (Ah a.q 1)⟩) :=
 DK.ok (C:=.leaf ()) (L:=λ_=>(Ex.nm,CQ s u (wr .i64 (Ah (ofNat i) 1)) ⟨-1,-1,a.b,wr .i64 (Ah a.q 1)⟩)) (.k (Ae hu) <| .k (decide_eq_true hu) <| .r 2 eT <| .k (ofNat_lt hi) <| .k (Ae hu) <| .k (decide_eq_true hu) <| .r 2 eT <| .k (Ae hi) <| .k eT <| .k (decide_eq_true hi) <| .k o11 <| .r 6 o9 <| .k eF <| .r 4 (eN o6) <| .k eF <| .k hq <| .k n0 <| .k hE <| .k (eI a.q) <| .k (eI (ofNat s.nx)) <| .k (eI (x1 s a.q)) <| .k (eI (x2 s a.q)) <| .k (eI (ofNat s.nx)) <| .k n0 <| .k (eI (x3 s a.q)) <| .k (eI (pe6 s a.q).kind) <| .k (eQ (pe6 s a.q).ext) <| .k (eQ (pe6 s a.q).same) <| .k (eI (pe6 s a.q).src) <| .k (eI (pe6 s a.q).dst) <| .k (eI (pe6 s a.q).fence) <| .k (eI a.q) <| .k (eI (ofNat s.nx)) <| .k (eI (x1 s a.q)) <| .k (eI (x2 s a.q)) <| .k (eI (ofNat s.nx)) <| .k n0 <| .k (eI (x3 s a.q)) <| .k (eI (pe6 s a.q).kind) <| .k (eQ (pe6 s a.q).ext) <| .k (eQ (pe6 s a.q).same) <| .k (eI (pe6 s a.q).src) <| .k (eI (pe6 s a.q).dst) <| .k (eI (pe6 s a.q).fence) <| .k n0 <| .k hX <| .k hN <| .r 3 (eN (eB k8 hc)) <| .r 3 hc <| .k (eN (eB k8 hc)) <| .k hc <| .k (eN (eB k8 hc)) <| .k eF <| .r 4 k6 <| .r 3 (eN (eB eT hm)) <| .r 3 hm <| .k (eN (eB eT hm)) <| .k hm <| .k (eN (eB eT hm)) <| .k (eN hr) <| .l) (by kernel_rfl) rfl
theorem Agc {s:Sh7} {u i:Nat} {a:A6} (hu:u<toN s.tt) (hi:i<Cz (cdL s s.nx u)) (o11:ieq (I6 s u i).op 11=false) (o9:ieq (I6 s u i).op 9=false) (o6:ieq (I6 s u i).op 6=true) (n0:ieq (ofNat s.nx) 0=false) (hq:ile (ofNat s.nx) a.q=false) (hE:Aj (ile 0 (x3 s a.q)) (ilt (x3 s a.q) (ofNat s.ne))=true) (hX:Aj (ile 0 (x3 s a.q)) (ilt (x3 s a.q) (ofNat s.nx))=true) (hN:nlt (toN (x3 s a.q)) s.nx=true) (k8:ieq (pe6 s a.q).kind 8=false) (k6:ieq (pe6 s a.q).kind 6=false) (k7:ieq (pe6 s a.q).kind 7=true) (hc:ile 0 a.c=false) (hm:ile 0 a.m=true) (hr:ieq a.m (pr6 s a.q)=true):Au (B6 2 L) ET (CQ s u (ofNat i) a)=some (Ex.nm,CQ s u (wr .i64 (Ah (ofNat i) 1)) ⟨-1,-1,a.b,wr .i64 (Ah a.q 1)⟩) :=
 DK.ok (C:=.leaf ()) (L:=λ_=>(Ex.nm,CQ s u (wr .i64 (Ah (ofNat i) 1)) ⟨-1,-1,a.b,wr .i64 (Ah a.q 1)⟩)) (.k (Ae hu) <| .k (decide_eq_true hu) <| .r 2 eT <| .k (ofNat_lt hi) <| .k (Ae hu) <| .k (decide_eq_true hu) <| .r 2 eT <| .k (Ae hi) <| .k eT <| .k (decide_eq_true hi) <| .k o11 <| .r 6 o9 <| .k eF <| .r 4 (eN o6) <| .k eF <| .k hq <| .k n0 <| .k hE <| .k (eI a.q) <| .k (eI (ofNat s.nx)) <| .k (eI (x1 s a.q)) <| .k (eI (x2 s a.q)) <| .k (eI (ofNat s.nx)) <| .k n0 <| .k (eI (x3 s a.q)) <| .k (eI (pe6 s a.q).kind) <| .k (eQ (pe6 s a.q).ext) <| .k (eQ (pe6 s a.q).same) <| .k (eI (pe6 s a.q).src) <| .k (eI (pe6 s a.q).dst) <| .k (eI (pe6 s a.q).fence) <| .k (eI a.q) <| .k (eI (ofNat s.nx)) <| .k (eI (x1 s a.q)) <| .k (eI (x2 s a.q)) <| .k (eI (ofNat s.nx)) <| .k n0 <| .k (eI (x3 s a.q)) <| .k (eI (pe6 s a.q).kind) <| .k (eQ (pe6 s a.q).ext) <| .k (eQ (pe6 s a.q).same) <| .k (eI (pe6 s a.q).src) <| .k (eI (pe6 s a.q).dst) <| .k (eI (pe6 s a.q).fence) <| .k n0 <| .k hX <| .k hN <| .r 3 (eN (eB k8 hc)) <| .r 3 hc <| .k (eN (eB k8 hc)) <| .k hc <| .k (eN (eB k8 hc)) <| .k eF <| .r 4 k6 <| .r 3 (eN (eB k7 hm)) <| .r 3 hm <| .k (eN (eB k7 hm)) <| .k hm <| .k (eN (eB k7 hm)) <| .k (eN hr) <| .l) (by kernel_rfl) rfl
theorem AfZ {s:Sh7} {u i:Nat} {a:A6} (hu:u<toN s.tt) (hi:i<Cz (cdL s s.nx u)) (o11:ieq (I6 s u i).op 11=false) (o9:ieq (I6 s u i).op 9=false) (o6:ieq (I6 s u i).op 6=false) (o7:ieq (I6 s u i).op 7=true) (n0:ieq (ofNat s.nx) 0=false) (hq:ile (ofNat s.nx) a.q=false) (hE:Aj (ile 0 (x3 s a.q)) (ilt (x3 s a.q) (ofNat s.ne))=true) (hX:Aj (ile 0 (x3 s a.q)) (ilt (x3 s a.q) (ofNat s.nx))=true) (hN:nlt (toN (x3 s a.q)) s.nx=true) (k8:ieq (pe6 s a.q).kind 8=false) (k6:ieq (pe6 s a.q).kind 6=false) (k7:ieq (pe6 s a.q).kind 7=false) (hc:ile 0 a.c=false) (hm:ile 0 a.m=false):Au (B6 2 L) ET (CQ s u (ofNat i) a)=some (Ex.nm,CQ s u (wr .i64 (Ah (ofNat i) 1)) ⟨-1,-1,a.b,wr .i64 (Ah a.q 1)⟩) :=
 DK.ok (C:=.leaf ()) (L:=λ_=>(Ex.nm,CQ s u (wr .i64 (Ah (ofNat i) 1)) ⟨-1,-1,a.b,wr .i64 (Ah a.q 1)⟩)) (.k (Ae hu) <| .k (decide_eq_true hu) <| .r 2 eT <| .k (ofNat_lt hi) <| .k (Ae hu) <| .k (decide_eq_true hu) <| .r 2 eT <| .k (Ae hi) <| .k eT <| .k (decide_eq_true hi) <| .k o11 <| .r 6 o9 <| .k eF <| .r 4 (eN o6) <| .k (eN o7) <| .k hq <| .k n0 <| .k hE <| .k (eI a.q) <| .k (eI (ofNat s.nx)) <| .k (eI (x1 s a.q)) <| .k (eI (x2 s a.q)) <| .k (eI (ofNat s.nx)) <| .k n0 <| .k (eI (x3 s a.q)) <| .k (eI (pe6 s a.q).kind) <| .k (eQ (pe6 s a.q).ext) <| .k (eQ (pe6 s a.q).same) <| .k (eI (pe6 s a.q).src) <| .k (eI (pe6 s a.q).dst) <| .k (eI (pe6 s a.q).fence) <| .k (eI a.q) <| .k (eI (ofNat s.nx)) <| .k (eI (x1 s a.q)) <| .k (eI (x2 s a.q)) <| .k (eI (ofNat s.nx)) <| .k n0 <| .k (eI (x3 s a.q)) <| .k (eI (pe6 s a.q).kind) <| .k (eQ (pe6 s a.q).ext) <| .k (eQ (pe6 s a.q).same) <| .k (eI (pe6 s a.q).src) <| .k (eI (pe6 s a.q).dst) <| .k (eI (pe6 s a.q).fence) <| .k n0 <| .k hX <| .k hN <| .r 3 (eN (eB k8 hc)) <| .r 3 hc <| .k (eN (eB k8 hc)) <| .k hc <| .k (eN (eB k8 hc)) <| .k eF <| .r 4 k6 <| .r 3 (eN (eB k7 hm)) <| .r 3 hm <| .k (eN (eB k7 hm)) <| .k hm <| .k (eN (eB k7 hm)) <| .k eF <| .l) (by kernel_rfl) rfl
theorem Agd {s:Sh7} {u i:Nat} {a:A6} (hu:u<toN s.tt) (hi:i<Cz (cdL s s.nx u)) (o11:ieq (I6 s u i).op 11=false) (o9:ieq (I6 s u i).op 9=false) (o6:ieq (I6 s u i).op 6=false) (o7:ieq (I6 s u i).op 7=true) (n0:ieq (ofNat s.nx) 0=false) (hq:ile (ofNat s.nx) a.q=false) (hE:Aj (ile 0 (x3 s a.q)) (ilt (x3 s a.q) (ofNat s.ne))=true) (hX:Aj (ile 0 (x3 s a.q)) (ilt (x3 s a.q) (ofNat s.nx))=true) (hN:nlt (toN (x3 s a.q)) s.nx=true) (k8:ieq (pe6 s a.q).kind 8=true) (k6:ieq (pe6 s a.q).kind 6=false) (k7:ieq (pe6 s a.q).kind 7=false) (hc:ile 0 a.c=true) (hm:ile 0 a.m=false) (hr:ieq a.c (pr6 s a.q)=true):Au (B6 2 L) ET (CQ s u (ofNat i) a)=some (Ex.nm,CQ s u (wr .i64 (Ah (ofNat i) 1)) ⟨-1,-1,a.b,wr .i64 (Ah a.q 1)⟩) :=
 DK.ok (C:=.leaf ()) (L:=λ_=>(Ex.nm,CQ s u (wr .i64 (Ah (ofNat i) 1)) ⟨-1,-1,a.b,wr .i64 (Ah a.q 1)⟩)) (.k (Ae hu) <| .k (decide_eq_true hu) <| .r 2 eT <| .k (ofNat_lt hi) <| .k (Ae hu) <| .k (decide_eq_true hu) <| .r 2 eT <| .k (Ae hi) <| .k eT <| .k (decide_eq_true hi) <| .k o11 <| .r 6 o9 <| .k eF <| .r 4 (eN o6) <| .k (eN o7) <| .k hq <| .k n0 <| .k hE <| .k (eI a.q) <| .k (eI (ofNat s.nx)) <| .k (eI (x1 s a.q)) <| .k (eI (x2 s a.q)) <| .k (eI (ofNat s.nx)) <| .k n0 <| .k (eI (x3 s a.q)) <| .k (eI (pe6 s a.q).kind) <| .k (eQ (pe6 s a.q).ext) <| .k (eQ (pe6 s a.q).same) <| .k (eI (pe6 s a.q).src) <| .k (eI (pe6 s a.q).dst) <| .k (eI (pe6 s a.q).fence) <| .k (eI a.q) <| .k (eI (ofNat s.nx)) <| .k (eI (x1 s a.q)) <| .k (eI (x2 s a.q)) <| .k (eI (ofNat s.nx)) <| .k n0 <| .k (eI (x3 s a.q)) <| .k (eI (pe6 s a.q).kind) <| .k (eQ (pe6 s a.q).ext) <| .k (eQ (pe6 s a.q).same) <| .k (eI (pe6 s a.q).src) <| .k (eI (pe6 s a.q).dst) <| .k (eI (pe6 s a.q).fence) <| .k n0 <| .k hX <| .k hN <| .r 3 (eN (eB k8 hc)) <| .r 3 hc <| .k (eN (eB k8 hc)) <| .k hc <| .k (eN (eB k8 hc)) <| .k (eN hr) <| .r 4 k6 <| .r 3 (eN (eB k7 hm)) <| .r 3 hm <| .k (eN (eB k7 hm)) <| .k hm <| .k (eN (eB k7 hm)) <| .k eF <| .l) (by kernel_rfl) rfl
theorem Agf {s:Sh7} {u i:Nat} {a:A6} (hu:u<toN s.tt) (hi:i<Cz (cdL s s.nx u)) (o11:ieq (I6 s u i).op 11=false) (o9:ieq (I6 s u i).op 9=false) (o6:ieq (I6 s u i).op 6=false) (o7:ieq (I6 s u i).op 7=true) (n0:ieq (ofNat s.nx) 0=false) (hq:ile (ofNat s.nx) a.q=false) (hE:Aj (ile 0 (x3 s a.q)) (ilt (x3 s a.q) (ofNat s.ne))=true) (hX:Aj (ile 0 (x3 s a.q)) (ilt (x3 s a.q) (ofNat s.nx))=true) (hN:nlt (toN (x3 s a.q)) s.nx=true) (k8:ieq (pe6 s a.q).kind 8=false) (k6:ieq (pe6 s a.q).kind 6=true) (hc:ile 0 a.c=false) (hm:ile 0 a.m=true) (hr:ieq a.m (pr6 s a.q)=true):Au (B6 2 L) ET (CQ s u (ofNat i) a)=some (Ex.nm,CQ s u (wr .i64 (Ah (ofNat i) 1)) ⟨-1,-1,a.b,wr .i64 (Ah a.q 1)⟩) :=
 DK.ok (C:=.leaf ()) (L:=λ_=>(Ex.nm,CQ s u (wr .i64 (Ah (ofNat i) 1)) ⟨-1,-1,a.b,wr .i64 (Ah a.q 1)⟩)) (.k (Ae hu) <| .k (decide_eq_true hu) <| .r 2 eT <| .k (ofNat_lt hi) <| .k (Ae hu) <| .k (decide_eq_true hu) <| .r 2 eT <| .k (Ae hi) <| .k eT <| .k (decide_eq_true hi) <| .k o11 <| .r 6 o9 <| .k eF <| .r 4 (eN o6) <| .k (eN o7) <| .k hq <| .k n0 <| .k hE <| .k (eI a.q) <| .k (eI (ofNat s.nx)) <| .k (eI (x1 s a.q)) <| .k (eI (x2 s a.q)) <| .k (eI (ofNat s.nx)) <| .k n0 <| .k (eI (x3 s a.q)) <| .k (eI (pe6 s a.q).kind) <| .k (eQ (pe6 s a.q).ext) <| .k (eQ (pe6 s a.q).same) <| .k (eI (pe6 s a.q).src) <| .k (eI (pe6 s a.q).dst) <| .k (eI (pe6 s a.q).fence) <| .k (eI a.q) <| .k (eI (ofNat s.nx)) <| .k (eI (x1 s a.q)) <| .k (eI (x2 s a.q)) <| .k (eI (ofNat s.nx)) <| .k n0 <| .k (eI (x3 s a.q)) <| .k (eI (pe6 s a.q).kind) <| .k (eQ (pe6 s a.q).ext) <| .k (eQ (pe6 s a.q).same) <| .k (eI (pe6 s a.q).src) <| .k (eI (pe6 s a.q).dst) <| .k (eI (pe6 s a.q).fence) <| .k n0 <| .k hX <| .k hN <| .r 3 (eN (eB k8 hc)) <| .r 3 hc <| .k (eN (eB k8 hc)) <| .k hc <| .k (eN (eB k8 hc)) <| .k eF <| .r 4 k6 <| .r 3 (eN (eB eT hm)) <| .r 3 hm <| .k (eN (eB eT hm)) <| .k hm <| .k (eN (eB eT hm)) <| .k (eN hr) <| .l) (by kernel_rfl) rfl
theorem Agb {s:Sh7} {u i:Nat} {a:A6} (hu:u<toN s.tt) (hi:i<Cz (cdL s s.nx u)) (o11:ieq (I6 s u i).op 11=false) (o9:ieq (I6 s u i).op 9=false) (o6:ieq (I6 s u i).op 6=false) (o7:ieq (I6 s u i).op 7=true) (n0:ieq (ofNat s.nx) 0=false) (hq:ile (ofNat s.nx) a.q=false) (hE:Aj (ile 0 (x3 s a.q)) (ilt (x3 s a.q) (ofNat s.ne))=true) (hX:Aj (ile 0 (x3 s a.q)) (ilt (x3 s a.q) (ofNat s.nx))=true) (hN:nlt (toN (x3 s a.q)) s.nx=true) (k8:ieq (pe6 s a.q).kind 8=false) (k6:ieq (pe6 s a.q).kind 6=false) (k7:ieq (pe6 s a.q).kind 7=true) (hc:ile 0 a.c=false) (hm:ile 0 a.m=true) (hr:ieq a.m (pr6 s a.q)=true):Au (B6 2 L) ET (CQ s u (ofNat i) a)=some (Ex.nm,CQ s u (wr .i64 (Ah (ofNat i) 1)) ⟨-1,-1,a.b,wr .i64 (Ah a.q 1)⟩) :=
 DK.ok (C:=.leaf ()) (L:=λ_=>(Ex.nm,CQ s u (wr .i64 (Ah (ofNat i) 1)) ⟨-1,-1,a.b,wr .i64 (Ah a.q 1)⟩)) (.k (Ae hu) <| .k (decide_eq_true hu) <| .r 2 eT <| .k (ofNat_lt hi) <| .k (Ae hu) <| .k (decide_eq_true hu) <| .r 2 eT <| .k (Ae hi) <| .k eT <| .k (decide_eq_true hi) <| .k o11 <| .r 6 o9 <| .k eF <| .r 4 (eN o6) <| .k (eN o7) <| .k hq <| .k n0 <| .k hE <| .k (eI a.q) <| .k (eI (ofNat s.nx)) <| .k (eI (x1 s a.q)) <| .k (eI (x2 s a.q)) <| .k (eI (ofNat s.nx)) <| .k n0 <| .k (eI (x3 s a.q)) <| .k (eI (pe6 s a.q).kind) <| .k (eQ (pe6 s a.q).ext) <| .k (eQ (pe6 s a.q).same) <| .k (eI (pe6 s a.q).src) <| .k (eI (pe6 s a.q).dst) <| .k (eI (pe6 s a.q).fence) <| .k (eI a.q) <| .k (eI (ofNat s.nx)) <| .k (eI (x1 s a.q)) <| .k (eI (x2 s a.q)) <| .k (eI (ofNat s.nx)) <| .k n0 <| .k (eI (x3 s a.q)) <| .k (eI (pe6 s a.q).kind) <| .k (eQ (pe6 s a.q).ext) <| .k (eQ (pe6 s a.q).same) <| .k (eI (pe6 s a.q).src) <| .k (eI (pe6 s a.q).dst) <| .k (eI (pe6 s a.q).fence) <| .k n0 <| .k hX <| .k hN <| .r 3 (eN (eB k8 hc)) <| .r 3 hc <| .k (eN (eB k8 hc)) <| .k hc <| .k (eN (eB k8 hc)) <| .k eF <| .r 4 k6 <| .r 3 (eN (eB k7 hm)) <| .r 3 hm <| .k (eN (eB k7 hm)) <| .k hm <| .k (eN (eB k7 hm)) <| .k (eN hr) <| .l) (by kernel_rfl) rfl
end
inductive Md6 (s:Sh7) (a:A6):Prop where
 | n (k8:ieq (pe6 s a.q).kind 8=false) (k6:ieq (pe6 s a.q).kind 6=false) (k7:ieq (pe6 s a.q).kind 7=false) (hc:ile 0 a.c=false) (hm:ile 0 a.m=false)
 | c (k8:ieq (pe6 s a.q).kind 8=true) (k6:ieq (pe6 s a.q).kind 6=false) (k7:ieq (pe6 s a.q).kind 7=false) (hc:ile 0 a.c=true) (hm:ile 0 a.m=false) (hr:ieq a.c (pr6 s a.q)=true)
 | a (k8:ieq (pe6 s a.q).kind 8=false) (k6:ieq (pe6 s a.q).kind 6=true) (hc:ile 0 a.c=false) (hm:ile 0 a.m=true) (hr:ieq a.m (pr6 s a.q)=true)
 | d (k8:ieq (pe6 s a.q).kind 8=false) (k6:ieq (pe6 s a.q).kind 6=false) (k7:ieq (pe6 s a.q).kind 7=true) (hc:ile 0 a.c=false) (hm:ile 0 a.m=true) (hr:ieq a.m (pr6 s a.q)=true)
structure Gd6 (s:Sh7) (a:A6):Prop where
 n0:ieq (ofNat s.nx) 0=false
 hq:ile (ofNat s.nx) a.q=false
 hE:Aj (ile 0 (x3 s a.q)) (ilt (x3 s a.q) (ofNat s.ne))=true
 hX:Aj (ile 0 (x3 s a.q)) (ilt (x3 s a.q) (ofNat s.nx))=true
 hN:nlt (toN (x3 s a.q)) s.nx=true
inductive Stp6 (s:Sh7) (I:In8) (a:A6):A6->Prop where
 | b (h:I.op=11):Stp6 s I a ⟨I.a,a.m,wr .i64 (Ah a.b 1),a.q⟩
 | x (h:I.op=9) (hab:I.a=I.b):Stp6 s I a ⟨a.c,I.a,a.b,a.q⟩
 | o (h:I.op=13 ∨ I.op=12 ∨ I.op=10 ∨ I.op=8):Stp6 s I a a
 | m (h:I.op=6 ∨ I.op=7) (g:Gd6 s a) (w:Md6 s a):Stp6 s I a ⟨-1,-1,a.b,wr .i64 (Ah a.q 1)⟩
theorem CG {x:Int} {k j:Int} (h:x=k) (hk:k ≠ j:=by decide):ieq x j=false:=by
 subst h;unfold ieq;simpa using hk
theorem MV {x k:Int} (h:x=k):ieq x k=true:=by rw [h]; exact eI k
theorem w6 (L:LT) {s:Sh7} {u i:Nat} {a a':A6} (hu:u<toN s.tt) (hi:i<Cz (cdL s s.nx u)) (h:Stp6 s (I6 s u i) a a'):Au (B6 2 L) ET (CQ s u (ofNat i) a)=some (Ex.nm,CQ s u (wr .i64 (Ah (ofNat i) 1)) a'):=by
 cases h with
 | b h=>exact w6b L hu hi (MV h) (CG h) (CG h) (CG h)
 | x h hab=>exact w6x L hu hi (CG h) (MV h) (CG h) (CG h) (MV hab)
 | o h=>rcases h with h | h | h | h <;> exact w6o L hu hi (CG h) (CG h) (CG h) (CG h)
 | m h g w =>
  obtain ⟨n0,hq,hE,hX,hN⟩:=g;rcases h with h | h
  ·cases w with
   | n k8 k6 k7 hc hm=>exact Aga L hu hi (CG h) (CG h) (MV h) n0 hq hE hX hN k8 k6 k7 hc hm
   | c k8 k6 k7 hc hm hr=>exact Age L hu hi (CG h) (CG h) (MV h) n0 hq hE hX hN k8 k6 k7 hc hm hr
   | a k8 k6 hc hm hr=>exact Agg L hu hi (CG h) (CG h) (MV h) n0 hq hE hX hN k8 k6 hc hm hr
   | d k8 k6 k7 hc hm hr=>exact Agc L hu hi (CG h) (CG h) (MV h) n0 hq hE hX hN k8 k6 k7 hc hm hr
  ·cases w with
   | n k8 k6 k7 hc hm=>exact AfZ L hu hi (CG h) (CG h) (CG h) (MV h) n0 hq hE hX hN k8 k6 k7 hc hm
   | c k8 k6 k7 hc hm hr=>exact Agd L hu hi (CG h) (CG h) (CG h) (MV h) n0 hq hE hX hN k8 k6 k7 hc hm hr
   | a k8 k6 hc hm hr=>exact Agf L hu hi (CG h) (CG h) (CG h) (MV h) n0 hq hE hX hN k8 k6 hc hm hr
   | d k8 k6 k7 hc hm hr=>exact Agb L hu hi (CG h) (CG h) (CG h) (MV h) n0 hq hE hX hN k8 k6 k7 hc hm hr
inductive Run6 (s:Sh7):List In8->A6->A6->Prop where
 | nil (a:A6):Run6 s [] a a
 | cons {I:In8} {l:List In8} {a b c:A6} (h:Stp6 s I a b) (t:Run6 s l b c):Run6 s (I::l) a c
theorem Run6.app {s:Sh7} {l m:List In8} {a b c:A6} (h:Run6 s l a b) (t:Run6 s m b c):Run6 s (l++m) a c:=by
 induction h with
 | nil a=>exact t
 | cons h _ ih=>exact .cons h (ih t)
theorem UG (L:LT) {s:Sh7} {u:Nat} (hu:u<toN s.tt) (hl:Cz (cdL s s.nx u) <= 1000):∀ (l:List In8) (k m:Nat) (a e:A6),l=(cdL s s.nx u).drop k->k+l.length=Cz (cdL s s.nx u)->l.length<m->Run6 s l a e ->
  (A3 (B6 2 L) ET m (CQ s u (ofNat k) a)).sem=some (YX s u e)
 | [],k,m,a,e,_,hk,hm,hr=>by
  obtain ⟨m,rfl⟩:∃ o,m=o+1:=⟨m-1,by omega⟩;cases hr;have hk:k=Cz (cdL s s.nx u):=by simpa using hk
  rw [Ag (DK.ok (C:=.leaf (YX s u a)) (L:=λa=>a) (.k (Ae hu) <| .k (decide_eq_true hu) <| .r 2 eT <| .k (Av (Nat.le_of_eq hk.symm)) .l) (by kernel_rfl) rfl)]
  rfl
 | I::l,k,m,a,e,hd,hk,hm,hr=>by
  obtain ⟨m,rfl⟩:∃ o,m=o+1:=⟨m-1,by omega⟩;cases hr with
  | cons h t =>
   rename_i b;have hk:k+(l.length+1)=Cz (cdL s s.nx u):=by simpa using hk
   have hlt:k<Cz (cdL s s.nx u):=by omega
   have hI:I6 s u k=I:=by
    unfold I6 Afp;rw [List.getD_eq_getElem?_getD];have:(cdL s s.nx u)[k]? = some I:=by
     have:=congrArg (λl=>l[0]?) hd;simpa using this.symm
    rw [this];rfl
   rw [<- hI] at h;rw [Ag (w6 L hu hlt h)];show (A3 (B6 2 L) ET m (CQ s u (wr .i64 (Ah (ofNat k) 1)) b)).sem=_;rw [E2 hlt (by omega)];exact UG L hu hl l (k+1) m b e (by have:=congrArg List.tail hd; simpa using this) (by omega) (by simp at hm; omega) t
theorem Ai9 (L:LT) {s:Sh7} {u:Nat} (hu:u<toN s.tt) (hl:Cz (cdL s s.nx u) <= 1000) {a e:A6} (h:Run6 s (cdL s s.nx u) a e):(A3 (B6 2 L) ET 4611686018427387905 (CQ s u 0 a)).sem=some (YX s u e) :=
 UG L hu hl (cdL s s.nx u) 0 _ a e rfl (by simp [Cz]) (by unfold Cz at hl; omega) h
end Go.Proofs.YtkbafjceglhjhaaGreatDoor.Er
namespace Go.Proofs.YtkbafjceglhjhaaGreatDoor.Er
open Go.Sy Go Go.Proofs.YtkbafjceglhjhaaGreatDoor.Ed Go.Proofs.YtkbafjceglhjhaaGreatDoor.Sh
open Int (ofNat)
set_option maxRecDepth 100000
set_option maxHeartbeats 1000000
def AbI (e:E6):Bool:=(ieq e.src 1 || ieq e.src 2) && ((!(ieq e.kind 6 || (ieq e.kind 7 || ieq e.kind 8)) || (ieq e.src 1 && !Ay e)) && (!(ieq e.kind 7) || ieq e.dst 2))
theorem WH:(List.range 112).all (λk=>AbI (De k))=true:=by kernel_rfl
theorem AbH {e:E6} (h:AZ e=0):AbI e=true:=by
 rcases EI e with ⟨k,hk,_,_,he,_⟩ | ⟨h2,_⟩
 ·rw [<- he]
  exact List.all_eq_true.1 WH k (by simpa using hk)
 ·rw [h2] at h
  cases h
theorem before {o:Nat->Bool} {n i:Nat} (hi:i<n) (h:o (n-1)=true):Ai o i<Ai o n:=by
 have h1:=AT o (show i <= n-1 by omega);have h2:=Bs h;rw [show n-1+1=n by omega] at h2;omega
def obE (s:Sh7) (k:Nat):Bool:=Ay (s.E k)
structure Gs (s:Sh7):Prop where
 ne:s.ne=s.nx
 lo:2 <= s.nx
 hi:s.nx <= 16
 tt:s.tt=ofNat (Ai (obE s) s.nx)
 ok:∀ i,i<s.nx->AbI (s.E i)=true
 meets:∀ i,i<s.nx->(s.E i).dst=(s.E ((i+1) % s.nx)).src
 last:obE s (s.nx-1)=true
 th:∀ i,i<s.nx->(s.X i).th=ofNat (Ai (obE s) i)
 pl:∀ i,i<s.nx->(s.X i).pl=ofNat (Ai (λk=>ieq (s.X i).th (s.X k).th) i)
 dir:∀ i,i<s.nx->(s.X i).dir=(s.E i).src
theorem XI {e e':Ev5} (h:Ho e e'=true):e=e':=by
 unfold Ho at h;obtain ⟨h1,h⟩:=Bl h;obtain ⟨h2,h⟩:=Bl h;obtain ⟨h3,h⟩:=Bl h;obtain ⟨h4,h⟩:=Bl h;obtain ⟨h5,_⟩:=Bl h;obtain ⟨a,b,c,d,f⟩:=e;obtain ⟨a',b',c',d',f'⟩:=e'
 replace h1:=Ck h1
 replace h2:=Ck h2
 replace h3:=Ck h3
 replace h4:=Ck h4
 replace h5:=Ck h5
 simp only at h1 h2 h3 h4 h5;rw [h1,h2,h3,h4,h5]
theorem good {s:Sh7} (h:ieq (Jj s) 0=true):Gs s:=by
 have hc:Eh s=true:=by
  cases hc:Eh s with
  | true=>rfl
  | false =>unfold Jj at h;rw [hc] at h;cases h
 unfold Eh at hc;obtain ⟨h1,hc⟩:=Bl hc;unfold Jx at hc;obtain ⟨_,hc⟩:=Bl hc;obtain ⟨htt,hc⟩:=Bl hc;obtain ⟨_,hc⟩:=Bl hc;obtain ⟨hE,hc⟩:=Bl hc;obtain ⟨hnx,hc⟩:=Bl hc;obtain ⟨_,hc⟩:=Bl hc;obtain ⟨_,hX⟩:=Bl hc;have hy:=Bj h1;have hG:=Fb hy;have hl:=X6 hy;have hnx:s.nx=s.ne:=Int.ofNat.inj (Ck hnx);have hE:∀ i,i<s.ne->s.E i=shG s.ne s.E i:=(Mm.1 hE).2;have hX:∀ i,i<s.nx->s.X i=evF s.ne (shG s.ne s.E) (λ_=>true) i:=λi hi=>XI (AG.1 hX i hi);have hob:∀ k,k <= s.ne->Ai (obE s) k=Ai (obF (shG s.ne s.E)) k:=λk hk=>Cd k λi hi=>by
  unfold obE;rw [hE i (by omega)];rfl
 have hth:∀ i,i<s.nx->(s.X i).th=ofNat (Ai (obE s) i):=λi hi=>by
  rw [hX i hi,CZ (by omega),hob i (by omega)];show A1 (obF (shG s.ne s.E)) s.ne i=_;rw [EW (by omega)];unfold AS;rw [if_neg (by have:=before (show i<s.ne by omega) hl; omega)]
 refine ⟨hnx.symm,by rw [hnx]; exact hy.lo,by rw [hnx]; exact hy.hi,?_,λi hi=>?_,λi hi=>?_,?_,hth,λi hi=>?_,λi hi=>?_⟩
 ·rw [hnx,hob _ (Nat.le_refl _)]
  exact Ck htt
 ·rw [hE i (by omega)]
  exact AbH (Fx.1 hG.may i (by omega))
 ·have hlo:=hy.lo
  have:=hG.meets i (by omega);unfold FA AL at this;rw [hnx,hE i (by omega),hE ((i+1) % s.ne) (Nat.mod_lt _ (by omega))];exact Ck (by simpa using this)
 ·rw [hnx]
  unfold obE;have:=hy.lo;rw [hE _ (by omega)];exact hl
 ·have e1:=hX i hi
  rw [e1,CZ (by omega)];show ofNat (plF s.ne (shG s.ne s.E) i)=_;unfold plF;congr 1;refine Cd i λk hk=>?_;rw [hX k (by omega),CZ (by omega)]
 ·rw [hX i hi,CZ (by omega),hE i (by omega)]
section
variable {s:Sh7} (hg:Gs s) {i:Nat}
def tN (s:Sh7) (i:Nat):Nat:=Ai (obE s) i
include hg
theorem ZZ (hi:i<s.nx):(toN (s.X i).th)=tN s i:=by rw [hg.th i hi]; rfl
theorem Acp (hi:i<s.nx):tN s i<toN s.tt:=by
 rw [hg.tt];exact before hi hg.last
theorem AgU (h0:i=0 ∨ obE s (i-1)=true) (hi:i<s.nx):ilt 0 (s.X i).pl=false:=by
 rw [hg.pl i hi];have:Ai (λk=>ieq (s.X i).th (s.X k).th) i=0:=by
  rcases h0 with rfl | h0
  ·rfl
  ·have hb:∀ k,k<i->(λk=>ieq (s.X i).th (s.X k).th) k=(λ_=>false) k:=λk hk=>by
    have h1:=AT (obE s) (show k <= i-1 by omega);have h2:=Bs h0;rw [show i-1+1=i by omega] at h2;simp only [hg.th i hi,hg.th k (by omega)];simp [ieq];omega
   rw [Cd (p:=λ_=>false) i hb];clear hb hi h0
   induction i with
   | zero=>rfl
   | succ i ih=>rw [B0 rfl,ih]
 rw [this];rfl
theorem AiB (h0:0<i) (h:obE s (i-1)=false) (hi:i<s.nx):ilt 0 (s.X i).pl=true:=by
 rw [hg.pl i hi];have h2:=B0 h;rw [show i-1+1=i by omega] at h2;have h3:=Bs (p:=λk=>ieq (s.X i).th (s.X k).th) (i:=i-1) (by
  simp only [hg.th i hi,hg.th (i-1) (by omega),h2];exact eI _)
 rw [show i-1+1=i by omega] at h3;rw [h3];exact decide_eq_true (by show (0:Int)<((_+1:Nat):Int); omega)
theorem PR:plB s=true:=by
 have htt:toN s.tt=Ai (obE s) s.nx:=by rw [hg.tt]; rfl
 have h1:=B5 (obE s) s.nx;have h2:=hg.hi;unfold plB;simp only [Bool.and_eq_true];refine ⟨Nat.ble_eq_true_of_le h2,Nat.ble_eq_true_of_le (by omega),?_,AG.2 λi hi=>?_⟩
 ·rw [htt,hg.tt]
  exact eI _
 ·rw [hg.th i hi]
  exact Ae (Acp hg hi)
theorem Ab7:cdB s=true:=by
 unfold cdB;rw [PR hg,bTA];refine AG.2 λi hi=>?_;by_cases h0:i=0
 ·rw [AgU hg (.inl h0) hi]
  rfl
 ·have:Aj (Nat.blt 0 i) (Nat.ble i s.ne)=true:=by
   have:=hg.ne;exact (Jb (Nat.ble_eq_true_of_le (show 0<i by omega))).trans (Nat.ble_eq_true_of_le (by omega))
  rw [this];exact Bool.or_true _
def pvN (s:Sh7) (i:Nat):Nat:=(i+s.nx-1) % s.nx
theorem Q8 (hi:i<s.nx):x3 s (ofNat i)=ofNat (pvN s i):=by
 have h1:=hg.hi;have h2:=hg.lo;unfold x3 x2 x1 pvN;rw [show Ah (ofNat i) (ofNat s.nx)=ofNat (i+s.nx) from rfl,Ko (by omega),show Bn (ofNat (i+s.nx)) 1=ofNat (i+s.nx-1) from by unfold Bn; simp; omega,Ko (by omega)];rfl
theorem Ya:pvN s i<s.nx:=Nat.mod_lt _ (by have:=hg.lo; omega)
omit hg in
theorem Ms (h0:0<i) (hi:i<s.nx):pvN s i=i-1:=by
 unfold pvN;rw [show i+s.nx-1=i-1+s.nx by omega,Nat.add_mod_right,Nat.mod_eq_of_lt (by omega)]
theorem AaG (hi:i<s.nx):(pvN s i+1) % s.nx=i:=by
 by_cases h0:i=0
 ·subst h0
  have:=hg.lo;unfold pvN;rw [show 0+s.nx-1=s.nx-1 by omega,Nat.mod_eq_of_lt (show s.nx-1<s.nx by omega),show s.nx-1+1=s.nx by omega,Nat.mod_self]
 ·rw [Ms (by omega) hi,show i-1+1=i by omega,Nat.mod_eq_of_lt hi]
theorem Ac8 (hi:i<s.nx):pe6 s (ofNat i)=s.E (pvN s i):=by
 unfold pe6;rw [Q8 hg hi];rfl
theorem AgT (hi:i<s.nx):pr6 s (ofNat i)=rg9 s (pvN s i):=by
 unfold pr6;rw [Q8 hg hi];rfl
theorem YQ (hi:i<s.nx) (c m b:Int):Gd6 s ⟨c,m,b,ofNat i⟩:=by
 have h1:=Ya hg (i:=i);refine ⟨?_,?_,?_,?_,?_⟩
 ·have:=hg.lo
  simp [ieq];omega
 ·exact decide_eq_false (by show ¬ ((s.nx:Int) <= (i:Int)); omega)
 ·show Aj (ile 0 (x3 s (ofNat i))) (ilt (x3 s (ofNat i)) (ofNat s.ne))=true
  rw [Q8 hg hi,hg.ne];exact Ae h1
 ·show Aj (ile 0 (x3 s (ofNat i))) (ilt (x3 s (ofNat i)) (ofNat s.nx))=true
  rw [Q8 hg hi];exact Ae h1
 ·show nlt (toN (x3 s (ofNat i))) s.nx=true
  rw [Q8 hg hi];exact decide_eq_true h1
theorem Ago (h0:0<i) (hi:i<s.nx):wr .i64 (Bn (ofNat i) 1)=ofNat (i-1):=by
 have:=hg.hi;obtain ⟨k,rfl⟩:∃ k,i=k+1:=⟨i-1,by omega⟩;rw [show Bn (ofNat (k+1)) 1=ofNat k from by unfold Bn; simp];exact Ko (by omega)
theorem AhV (h0:0<i) (hi:i<s.nx):ed9 s i=pe6 s (ofNat i):=by
 rw [Ac8 hg hi,Ms h0 hi];unfold ed9;rw [Ago hg h0 hi];rfl
theorem XR (h0:0<i) (h:obE s (i-1)=false) (hi:i<s.nx) (hr:(s.E (i-1)).src=1):rP9 s i=pr6 s (ofNat i)∧ile 0 (rP9 s i)=true:=by
 have hi1:i-1<s.nx:=by omega
 have ht:tN s i=tN s (i-1):=by
  have h2:=B0 h;rw [show i-1+1=i by omega] at h2;exact h2
 have hh:hsF s s.nx (tN s (i-1)) (ofNat (i-1))=true:=by
  rw [IP];unfold hsX isT isR;rw [show toN (ofNat (i-1))=i-1 from rfl,ZZ hg hi1,Nat.beq_refl,hg.dir _ hi1,hr,show ilt (ofNat (i-1)) (ofNat s.nx)=true from ofNat_lt hi1];simp [ile,ieq]
 have e1:rP9 s i=gtF s s.nx (tN s (i-1)) (ofNat (i-1)):=by
  unfold rP9;rw [ZZ hg hi,ht,Ago hg h0 hi]
 have e2:pr6 s (ofNat i)=gtF s s.nx (tN s (i-1)) (ofNat (i-1)):=by
  rw [AgT hg hi,Ms h0 hi];unfold rg9 rI9;rw [ZZ hg hi1,hh];rfl
 refine ⟨e1.trans e2.symm,?_⟩;rw [e1];unfold gtF;rw [hh];exact decide_eq_true (Int.natCast_nonneg _)
end
end Go.Proofs.YtkbafjceglhjhaaGreatDoor.Er
