/-
  Layer 6: the program's Has. No conditions.
-/
import Derived.Test.YtkbgidbledjejaaGreatEnTb
import Derived.Test.YtkbgidbledjejaaGreatEdY
import Derived.Test.YtkbgidbledjejaaGreatEnG
import Derived.Test.YtkbgidbledjejaaGreatCyU
import Derived.Test.YtkbgidbledjejaaGreatChecked
import Derived.ProofKit
import Derived.OpenShut
import Derived.Deep.DeepHandedRow
import Derived.Test.YtkbgidbledjejaaGreatEnU
import Derived.Test.YtkbgidbledjejaaGreatCyI
namespace Go.Proofs.YtkbgidbledjejaaGreat.En
open Go.Sy Go Go.Proofs.YtkbgidbledjejaaGreat.Ed
set_option maxRecDepth 100000
noncomputable def Aji:AH:=(32,P9)::(59,Yq)::(60,Akz)::(61,Wz)::(62,P3)::[]
theorem AfX:Ao Tryz.prog Gl Aji:=.cons Agw <| .cons p65 <| .cons Apb <| .cons p48 <| .cons p62 <| .nil
def Anx:Lp:=⟨bmK 61 0 [0,1,2,3,8,9,11,31,32,33],1,bmK 61 0 [0,2,3,8,9,11],1,4611686018427387905⟩
def S27 (A n:Int) (k m:Nat) (w d:Nat->E6) (c:Int) (a:Unit) (j:Nat->V):St:=⟨jsV 61 0 j [(0,iV A),(1,.sl 6 k (λi=>eV (w i))),(2,iV n),(3,.sl 6 m (λi=>eV (d i))),(8,bV false),(9,iV 0),(11,.ref 0),(31,.sl 6 m (λi=>eV (d i))),(32,nV m),(33,iV c)],[.row 46 6 m (λi=>eV (JB m d i))]⟩
noncomputable def B27 (L:LT):St->T (Ex×St):=λst=>A8 tab ⟨A6 Aji,L,Gl⟩ (A0 Tryz.f27 0) 0 st
def Ab6 (A n:Int) (k m:Nat) (w d:Nat->E6) (i:Nat) (a:Unit):Ex×St:=(.rt,⟨jsV 61 0 Ac [(0,iV A),(2,iV n),(3,.sl 6 m (λi=>eV (d i))),(8,bV false),(9,iV 0),(11,.ref 0)],[.row 46 6 m (λi=>eV (JB m d i))]⟩)
def g27 (A n:Int) (k m:Nat) (w d:Nat->E6) (i:Nat) (a:Unit):T ((Unit) ⊕ (Ex×St)):=.br (Ib k w (d i)) (.leaf (.inl ())) (.leaf (.inr (Ab6 A n k m w d i a)))
def AnG (A n:Int) (k m:Nat) (w d:Nat->E6) (a:Unit):Ex×St:=(.ex 0,⟨jsV 61 0 Ac [(0,iV A),(2,iV n),(3,.sl 6 m (λi=>eV (d i))),(8,bV false),(9,iV 0),(11,.ref 0)],[.row 46 6 m (λi=>eV (JB m d i))]⟩)
theorem r27 (L:LT) (A n:Int) (k m:Nat) (w d:Nat->E6) (hk:Cr k=true) (hn:m <= 4611686018427387904) {e:Ex×St} {a:Unit} {j:Nat->V} (h:DO (g27 A n k m w d) (AnG A n k m w d) m 0 a=some e):(Ax (B27 L) Anx 4611686018427387905 (S27 A n k m w d 0 a j)).sem=some (exR e) :=
 Ef Ha hn (λi a j r hi h=>DK.ok (L:=goR (S27 A n k m w d) exR i) (.k (ofNat_lt hi) <| .k (Af hi) <| .k (eL k) <| .k eT <| .k hk <| .c (λh1=>.k (eN h1) <| .l) λh1=>.k (eN h1) <| .l) (by kernel_rfl) h) (λa j=>DK.ok (C:=.leaf (AnG A n k m w d a)) (L:=exR) (.k (A4 (Nat.le_refl m)) .l) (by kernel_rfl) rfl) (Nat.zero_add _).symm (Nat.lt_succ_of_le hn) h
def AaC:List (Nat×Lp×List (Nat×(Nat->V))):=[(0,Anx,[])]
def Md (A n:Int) (k m:Nat) (w d:Nat->E6):Int:=sel (ieq (Dt A k w n) 0) (sel (By m d) 0 30) (Dt A k w n)
def K8 (A n:Int) (k m:Nat) (w d:Nat->E6):Bool:=sel (ieq (Dt A k w n) 0) (sel (By m d) (sel (CQ m λi=>Ib k w (d i)) (sel (ieq (Ft A m d).1 0) (sel (ile (Int.ofNat m) n) (EB m (λi=>JB m d i) m d) false) false) false) false) false
def Qw:List V->A2
 | [.val (.int .i64 A),u,.val (.int .i64 n),c]=>apL u λk w=>apL c λm d=>.br (Cr k) (.br (BG m) (.leaf (.tup [bV (K8 A n k m w d),iV (Md A n k m w d)],[])) .fail) .fail
 | _=>.fail
theorem And:As Tryz.prog Gl 27 Qw:=by
 refine Ah Az mixed Tryz.func27 (by kernel_rfl) (by kernel_rfl) λvs v h' h=>?_;unfold Qw at h;split at h
 rotate_left
 ·cases h
 rename_i A u n c;obtain ⟨k,w,ha,h⟩:=AQ h;obtain ⟨m,d,hb,h⟩:=AQ h;obtain ⟨hk,h⟩:=Ab h;obtain ⟨hf,h⟩:=Ab h;cases Aa h;have hf':m * 40 <= 140737488355328:=of_decide_eq_true hf;have hm:Cr m=true:=decide_eq_true (by omega);have hn:m <= 4611686018427387904:=by omega
 have hx:=Ba AfX AaC (G:=Gl);refine ⟨[iV A,Am k w,iV n,Am m d],cxA Gl Aji AaC,_,λS W cs hq=>by
  obtain ⟨c,l,rfl,q1,c2,l2,rfl,q2,c3,l3,rfl,q3,c4,l4,rfl,q4,q5⟩:=hq;exact ⟨c,_,rfl,q1,c2,_,rfl,ha S W c2 q2,c3,_,rfl,q3,c4,_,rfl,hb S W c4 q4,q5⟩,rfl,hx.1,hx.2,?_,Au.refl _⟩
 have go:∀ i,i<m->(g27 A n k m w d i ()).sem=sel (Ib k w (d i)) (some (.inl ())) (some (.inr (Ab6 A n k m w d i ()))):=λi _=>rfl;unfold K8 Md;cases h1:ieq (Dt A k w n) 0 with
 | false=>exact DW.ok (.k (eL k) <| .k (eN h1) <| .l) (by kernel_rfl)
 | true =>
  cases h2:By m d with
  | false=>exact DW.ok (.k (eL k) <| .k (eN h1) <| .k (eL m) <| .k hf <| .k h2 <| .k (show AL (ieq 30 0)=true from rfl) <| .l) (by kernel_rfl)
  | true =>
   cases h3:CQ m λi=>Ib k w (d i) with
   | false=>exact DW.ok (.k (eL k) <| .k (eN h1) <| .k (eL m) <| .k hf <| .k h2 <| .k (eN (eI 0)) <| .a (r27 (C6 AaC) A n k m w d hk hn (j:=λ_=>.und) (Ai6 (x:=Ab6 A n k m w d 0 ()) go h3)) <| .l) (by kernel_rfl)
   | true =>
    cases h4:ieq (Ft A m d).1 0 with
    | false=>exact DW.ok (.k (eL k) <| .k (eN h1) <| .k (eL m) <| .k hf <| .k h2 <| .k (eN (eI 0)) <| .a (r27 (C6 AaC) A n k m w d hk hn (j:=λ_=>.und) (ZM go h3)) <| .k (eL m) <| .k hf <| .r 5 h4 <| .r 4 eF <| .l) (by kernel_rfl)
    | true =>
     cases h5:ile (Int.ofNat m) n with
     | false=>exact DW.ok (.k (eL k) <| .k (eN h1) <| .k (eL m) <| .k hf <| .k h2 <| .k (eN (eI 0)) <| .a (r27 (C6 AaC) A n k m w d hk hn (j:=λ_=>.und) (ZM go h3)) <| .k (eL m) <| .k hf <| .r 5 h4 <| .r 4 h5 <| .l) (by kernel_rfl)
     | true=>exact DW.ok (.k (eL k) <| .k (eN h1) <| .k (eL m) <| .k hf <| .k h2 <| .k (eN (eI 0)) <| .a (r27 (C6 AaC) A n k m w d hk hn (j:=λ_=>.und) (ZM go h3)) <| .k (eL m) <| .k hf <| .r 5 h4 <| .r 3 h5 <| .r 2 (eL m) <| .k hm <| .k h5 <| .l) (by kernel_rfl)
end Go.Proofs.YtkbgidbledjejaaGreat.En
namespace Go.Proofs.YtkbgidbledjejaaGreat.En
open Go.Sy Go Go.Proofs.YtkbgidbledjejaaGreat.Ed
set_option maxRecDepth 100000
noncomputable def Amc:AH:=(38,sbT)::(9,Ahc)::(11,AkO)::(39,Lq)::(27,Qw)::[]
theorem Aga:Ao Tryz.prog Gl Amc:=.cons p38 <| .cons p9 <| .cons p11 <| .cons p69 <| .cons And <| .nil
theorem eRr (n:Nat) (x:Nat->E6):Ce [.row 46 6 n λi=>eV (x i)]=true:=by
 simp only [Ce,Bool.and_true,List.all_eq_true];exact λ_ _=>rfl
theorem eRJ (n:Nat) (l:Nat->Nat) (x:Nat->Nat->E6):Ce [.jag ⟨22,1,n,λ_=>.und,0,46,6,λ_=>true,l,λi j=>eV (x i j),none⟩]=true:=by
 simp only [Ce,Bool.and_true,List.all_eq_true,Bool.and_eq_true];exact λ_ _=>⟨rfl,λ_ _=>rfl⟩
def awT:List V->A2
 | []=>.leaf (bV true,[])
 | _=>.fail
theorem p18:As Tryz.prog Gl 18 awT:=by
 refine Ah Az mixed Tryz.func18 (by kernel_rfl) (by kernel_rfl) λvs r h' h=>?_;unfold awT at h;split at h
 rotate_left
 ·cases h
 cases Aa h;have hx:=Ba Aga [] (G:=Gl);have w1:BG 2=true:=by decide
 have w2:Cr 2=true:=by decide
 have v1:ieq (Jf 1 2 (psG sbS) 4 9) 0=true:=by rw [Amk]; rfl
 have v2:ieq (Int.ofNat (F3 1 2 (psG sbS) 4 9).length) 1=true:=by rw [Agm.1]; rfl
 have v3:ieq (Int.ofNat ((F3 1 2 (psG sbS) 4 9).getD 0 []).length) 4=true:=by rw [Agm.2]; rfl
 have v4:Av (ile 0 0) (ilt 0 (Int.ofNat (F3 1 2 (psG sbS) 4 9).length))=true:=by rw [Agm.1]; rfl
 have v5:nlt 0 (F3 1 2 (psG sbS) 4 9).length=true:=by rw [Agm.1]; rfl
 have v6:K8 1 4 2 2 (psG sbS) (BR 2 (psG sbS) 1)=false:=by kernel_rfl
 have v7:ieq (Md 1 4 2 2 (psG sbS) (BR 2 (psG sbS) 1)) 0=true:=by kernel_rfl
 exact ⟨[],cxA Gl Amc [],_,B0.refl _,rfl,hx.1,hx.2,DW.ok (.k (eL 2) <| .k (eRJ (F3 1 2 (psG sbS) 4 9).length (λi=>((F3 1 2 (psG sbS) 4 9).getD i []).length) (λi t=>((F3 1 2 (psG sbS) 4 9).getD i []).getD t Bv)) <| .k (eG [(F3 1 2 (psG sbS) 4 9).length]) <| .k (eL 2) <| .k (eG [(F3 1 2 (psG sbS) 4 9).length]) <| .k (eL 2) <| .k w1 <| .k (eRr 2 (BR 2 (psG sbS) 1)) <| .k (eG [(F3 1 2 (psG sbS) 4 9).length]) <| .r 2 (eL 2) <| .k w2 <| .k w1 <| .r 4 v1 <| .r 2 v2 <| .k v4 <| .k v2 <| .k v5 <| .k eT <| .k v2 <| .k eT <| .r 2 v2 <| .r 3 v3 <| .r 3 v2 <| .r 3 v1 <| .r 3 (eN v6) <| .e (congrArg (λb=>(bV b,([]:List Blk))) v7)) (by kernel_rfl),Au.refl _⟩
end Go.Proofs.YtkbgidbledjejaaGreat.En
namespace Go.Proofs.YtkbgidbledjejaaGreat.En
open Go.Sy Go.Proofs.YtkbgidbledjejaaGreat.Ed
set_option maxRecDepth 100000
theorem own:ownKnob Tryz.prog.godebug=none:=by kernel_rfl
theorem OH:laidOutB Tryz.prog=true:=by kernel_rfl
def U7 (e:E6):List Value:=[.int .i64 e.kind,.bool e.ext,.bool e.same,.int .i64 e.src,.int .i64 e.dst,.int .i64 e.fence]
section
variable {H:Type} {enc:TypeId×Value->H} {W:World} {sp:Nat->Bool} {held:Bool} {r:Reach} {b0:Nat} {v:Value} {d:DataW H} {ps:List MemPlace}
theorem HU {c d:Value} {cs:List Value} (h:cs=[d]) (hc:[c]=cs):c=d:=by
 subst h;simpa using hc
theorem Yc (fuel:Nat) (cs:List Value) (x:DataW H×List MemPlace) (h:DataW.trod enc Tryz.prog W 0 sp held fuel 46 cs=some x):∃ e:E6,cs=U7 e:=by
 obtain ⟨xs,n,_,_,hl,hx,hf⟩:=DataW.trod_struct Tryz.underlying46 h;have hl:cs.length=6:=hl.trans (by kernel_rfl);have hx:xs.length=6:=hx;obtain ⟨c0,c1,c2,c3,c4,c5,rfl⟩:∃ a b c d e f,cs=[a,b,c,d,e,f]:=by
  match cs,hl with
  | [a,b,c,d,e,f],_=>exact ⟨a,b,c,d,e,f,rfl⟩
 have get:∀ (i:Nat) (f:Field),#[({ name := "Kind",type:=3,offset:=0,embedded:=false,tag := "",pkgPath := "",byteOffset:=0 }:Field),
    { name := "Ext",type:=4,offset:=1,embedded:=false,tag := "",pkgPath := "",byteOffset:=8 },
    { name := "Same",type:=4,offset:=2,embedded:=false,tag := "",pkgPath := "",byteOffset:=9 },
    { name := "Src",type:=3,offset:=3,embedded:=false,tag := "",pkgPath := "",byteOffset:=16 },
    { name := "Dst",type:=3,offset:=4,embedded:=false,tag := "",pkgPath := "",byteOffset:=24 },
    { name := "Fence",type:=3,offset:=5,embedded:=false,tag := "",pkgPath := "",byteOffset:=32 }][i]? = some f->i<6 ->
   ∃ y,DataW.trod enc Tryz.prog W 0 sp held n f.type (([c0,c1,c2,c3,c4,c5].drop f.offset).take (Tryz.prog.cellsOf f.type))=some y:=by
  intro i f hi hlt;have:=hf i f hi;rw [List.getElem?_eq_getElem (by omega)] at this;exact ⟨_,this⟩
 have n3:Tryz.prog.cellsOf 3=1:=by kernel_rfl
 have n4:Tryz.prog.cellsOf 4=1:=by kernel_rfl
 obtain ⟨y0,g0⟩:=get 0 _ rfl (by omega);obtain ⟨y1,g1⟩:=get 1 _ rfl (by omega);obtain ⟨y2,g2⟩:=get 2 _ rfl (by omega);obtain ⟨y3,g3⟩:=get 3 _ rfl (by omega);obtain ⟨y4,g4⟩:=get 4 _ rfl (by omega);obtain ⟨y5,g5⟩:=get 5 _ rfl (by omega);have g0:DataW.trod enc Tryz.prog W 0 sp held n 3 (([c0,c1,c2,c3,c4,c5].drop 0).take (Tryz.prog.cellsOf 3))=some y0:=g0;rw [n3] at g0;have g1:DataW.trod enc Tryz.prog W 0 sp held n 4 (([c0,c1,c2,c3,c4,c5].drop 1).take (Tryz.prog.cellsOf 4))=some y1:=g1;rw [n4] at g1;have g2:DataW.trod enc Tryz.prog W 0 sp held n 4 (([c0,c1,c2,c3,c4,c5].drop 2).take (Tryz.prog.cellsOf 4))=some y2:=g2;rw [n4] at g2;have g3:DataW.trod enc Tryz.prog W 0 sp held n 3 (([c0,c1,c2,c3,c4,c5].drop 3).take (Tryz.prog.cellsOf 3))=some y3:=g3;rw [n3] at g3;have g4:DataW.trod enc Tryz.prog W 0 sp held n 3 (([c0,c1,c2,c3,c4,c5].drop 4).take (Tryz.prog.cellsOf 3))=some y4:=g4;rw [n3] at g4;have g5:DataW.trod enc Tryz.prog W 0 sp held n 3 (([c0,c1,c2,c3,c4,c5].drop 5).take (Tryz.prog.cellsOf 3))=some y5:=g5;rw [n3] at g5;obtain ⟨a0,e0,_⟩:=DataW.trod_int Tryz.underlying3 g0;obtain ⟨a1,e1,_⟩:=DataW.trod_bool Tryz.underlying4 g1;obtain ⟨a2,e2,_⟩:=DataW.trod_bool Tryz.underlying4 g2;obtain ⟨a3,e3,_⟩:=DataW.trod_int Tryz.underlying3 g3;obtain ⟨a4,e4,_⟩:=DataW.trod_int Tryz.underlying3 g4;obtain ⟨a5,e5,_⟩:=DataW.trod_int Tryz.underlying3 g5;have e0:c0 = .int .i64 a0:=HU e0 rfl;have e1:c1 = .bool a1:=HU e1 rfl;have e2:c2 = .bool a2:=HU e2 rfl;have e3:c3 = .int .i64 a3:=HU e3 rfl;have e4:c4 = .int .i64 a4:=HU e4 rfl;have e5:c5 = .int .i64 a5:=HU e5 rfl;exact ⟨⟨a0,a1,a2,a3,a4,a5⟩,by rw [e0,e1,e2,e3,e4,e5]; rfl⟩
theorem Ah0 (S:Nat->Prop) (w:World) (κ:Ai) (e:E6):VR S w (eV e) κ (.agg (U7 e).toArray) :=
 ⟨_,rfl,_,_,rfl,rfl,_,_,rfl,rfl,_,_,rfl,rfl,_,_,rfl,rfl,_,_,rfl,rfl,_,_,rfl,rfl,rfl⟩
def AiB (W:World) (v:Value) (u:V):Prop:=VR (WB W) W u noK v
theorem Sl (hval:Value.okWide Tryz.prog W r b0 3 v) (h:DataW.Trod enc Tryz.prog W 0 sp held 3 v d ps):∃ n:Int,AiB W v (iV n):=by
 obtain ⟨n,rfl,_⟩:=ChangeShapes.open_int Tryz.underlying3 hval h;exact ⟨n,rfl⟩
instance:Inhabited E6:=⟨Bv⟩
theorem NU (hval:Value.okWide Tryz.prog W r b0 22 v) (h:DataW.Trod enc Tryz.prog W 0 sp held 22 v d ps) :
  ∃ (n:Nat) (xs:Nat->E6),AiB W v (.sl 6 n λi=>eV (xs i))∧(n=0 ∨ ∃ els rest,d = .slice els rest∧els.length=n) :=
 Xp (f:=U7) (g:=eV) (s:=6) Tryz.underlying22 (by kernel_rfl) (by omega) (λe u hu=>by simp [U7] at hu; rcases hu with rfl | rfl | rfl | rfl | rfl | rfl <;> rfl)
  (λS w e=>⟨_,Ah0 S w noK e,rfl⟩) Yc hval h
end
theorem ApM {S:Nat->Prop} {W:World}:MK Gl S W:=λ_=>trivial
noncomputable def Nu (os:Os):World:=World.holding Tryz.prog os ⟨#[],#[],[]⟩
end Go.Proofs.YtkbgidbledjejaaGreat.En
namespace Go.Proofs.YtkbgidbledjejaaGreat.En
open Go.Sy Go Go.Proofs.YtkbgidbledjejaaGreat.Ed
open Int (ofNat)
set_option maxRecDepth 100000
noncomputable def AkP:RngCode:=match Tryz.f28.body with
 | some c=>match rcd c with
  | some c=>c
  | none=>⟨#[],.skip,.skip⟩
 | none=>⟨#[],.skip,.skip⟩
noncomputable def ZZ (A n:Int) (k:Nat) (w:Nat->E6) (z:Nat) (d:Nat->E6):List V:=(jsV 47 0 (λ_=>A5) [(0,iV A),(1,.sl 6 k (λi=>eV (w i))),(2,iV n),(3,.sl 6 z (λi=>eV (d i))),(7,.ptr 0 0),(8,.ptr 1 0),(9,.ptr 2 0),(10,iV (Dt A k w n)),(11,iV (EG z d 0 (λ_=>Bv))),(12,iV (Mx z d 0 (λ_=>Bv))),(16,iV A),(17,.sl 6 k (λi=>eV (w i))),(18,iV n),(19,iV (Dt A k w n)),(20,iV (Dt A k w n)),(21,bV (AL (ieq (Dt A k w n) 0))),(23,.tup [iV (EG z d 0 (λ_=>Bv)),iV (Mx z d 0 (λ_=>Bv))]),(24,.sl 6 z (λi=>eV (d i))),(25,.tup [iV (EG z d 0 (λ_=>Bv)),iV (Mx z d 0 (λ_=>Bv))]),(26,iV (EG z d 0 (λ_=>Bv))),(27,iV (Mx z d 0 (λ_=>Bv))),(28,iV (Mx z d 0 (λ_=>Bv))),(29,bV (AL (ieq (Mx z d 0 (λ_=>Bv)) 0))),(30,.sl 6 k (λi=>eV (w i))),(31,iV n),(32,bV (FT k w n)),(33,iV A),(34,.sl 6 k (λi=>eV (w i))),(35,iV n),(36,.fn 41 [.ptr 3 0,.ptr 6 0,.ptr 4 0])])
noncomputable def Ama:AH:=(32,P9)::(33,Ll)::(63,AeB)::[]
theorem AfW:Ao Tryz.prog Gl Ama:=.cons Agw <| .cons p33 <| .cons Ed.p38 <| .nil
noncomputable abbrev Ae3:Cx:=⟨M5 [(19,E19)] (A6 Ama),C6 [],Gl⟩
def AgB:Lp:=⟨bmK 27 0 [0,5],13,bmK 27 0 [],21,10000000000000000000000000000000000000000000000000000⟩
noncomputable abbrev Wu:Cx:=⟨M5 [(42,Ra E42),(43,Ra E43)] (A6 tb41),C6 [(0,AgB,[(10,λ_=>iV 0)])],Gl⟩
noncomputable abbrev Ald:Rg:=rgI [] (Ac9 tab Ae3 rN)
noncomputable def Aoy:List V->List Blk->A2:=N7 tab Wu Ald Tryz.f41
noncomputable abbrev R28:Rg:=rgI [(41,Aoy)] YR
noncomputable def F28 (vs:List V):A2:=AK (N7 tab Ae3 R28 Tryz.f28 vs [])
noncomputable def B28:St->T (Ex×St):=λst=>Gw tab Wu Ald none (A0 Tryz.f41 0) 0 st
def AoH:List V:=jsV 27 0 Ac [(0,.ref 7),(5,.ptr 11 0)]
noncomputable def S28 (A n:Int) (k:Nat) (w:Nat->E6) (z:Nat) (d:Nat->E6) (m:Nat) (v:Nat->E6) (L:Nat) (x:Nat->Int) (hs:Key->Bool) (gt:Key->V):St:=⟨AoH,[.cells [Am z d],.cells [.nilS],.cells [iV 0],.cells [iV A],.cells [iV n],.row 46 6 k (λi=>eV (w i)),.cells [.und],.rng AkP (ZZ A n k w z d) .ready,.saved (.ref 7::ZZ A n k w z d),.row 46 6 m (λi=>eV (v i)),.row 3 1 L (λi=>iV (x i)),.cells [iV A,iV n,.ref 9,.ref 10],.gmap 86 [] hs gt]⟩
noncomputable def Ao6 (A n:Int) (k:Nat) (w:Nat->E6) (z:Nat) (d:Nat->E6) (m:Nat) (v:Nat->E6) (L:Nat) (x:Nat->Int) (hs:Key->Bool) (gt:Key->V):Ex×St:=(.ex 0,⟨Aa1,[.cells [Am z d],.cells [.nilS],.cells [iV 0],.cells [iV A],.cells [iV n],.row 46 6 k (λi=>eV (w i)),.cells [.und],.rng AkP (ZZ A n k w z d) .ready,.saved (.ref 7::ZZ A n k w z d),.row 46 6 m (λi=>eV (v i)),.row 3 1 L (λi=>iV (x i)),.cells [iV A,iV n,.ref 9,.ref 10],.gmap 86 [] hs gt]⟩)
noncomputable def Ao7 (A n:Int) (k:Nat) (w:Nat->E6) (z:Nat) (d:Nat->E6) (m:Nat) (v:Nat->E6) (L:Nat) (x:Nat->Int) (hs:Key->Bool) (gt:Key->V):Ex×St:=(.rt,⟨Aa1,[.cells [Am z d],.cells [.ref 13],.cells [iV 0],.cells [iV A],.cells [iV n],.row 46 6 k (λi=>eV (w i)),.cells [.und],.rng AkP (ZZ A n k w z d) (.done .rt),.saved (.ref 7::ZZ A n k w z d),.row 46 6 m (λi=>eV (v i)),.row 3 1 L (λi=>iV (x i)),.cells [iV A,iV n,.ref 9,.ref 10],.gmap 86 [] hs gt,.row 46 6 L (λk=>eV (v (toN (x k)))),.dead]⟩)
theorem AeK:Bb Tryz.prog Ae3.base:=Ij (.cons Ane .nil) (Ep rfl AfW)
theorem Ahk:Bb Tryz.prog Wu.base:=Ij (.cons Anb (.cons p43 .nil)) (Ep rfl tb41_ok)
theorem Apc:E4 Tryz.prog Gl 41 Aoy :=
 Km (P:=Tryz.prog) Az (Γ:=Wu) (R:=Ald) mixed Ahk (NE _ _ _) (AcA Az mixed (Γ:=Ae3) (Γ':=Wu) (R:=rN) rfl AeK (NE _ _ _) (P5 .nil) .nil) Tryz.func41 (by kernel_rfl) (by kernel_rfl)
theorem Api:As Tryz.prog Gl 28 F28 :=
 (Km (P:=Tryz.prog) Az (Γ:=Ae3) (R:=R28) mixed AeK (NE _ _ _) (P5 (.cons Apc .nil)) Tryz.func28 (by kernel_rfl) (by kernel_rfl)).pure
theorem KY {n m:Nat} {f f' g:Nat->E6} (h:∀ i,i<n->f i=f' i):EG n f m g=EG n f' m g:=by
 have hm:By n f=By n f':=by
  rw [Bool.eq_iff_iff,Bw,Bw];exact ⟨λq i hi=>h i hi ▸ q i hi,λq i hi=>by rw [h i hi]; exact q i hi⟩
 have hc:BH n f=BH n f':=List.map_congr_left λi hi=>by rw [h i (List.mem_range.1 hi)]
 unfold EG;rw [hm,hc]
def MG (v:Nat->E6) (z:Nat) (d:Nat->E6) (e:List Nat):Bool:=ilt 0 (EG e.length (wE v e) z d)
section
variable {A n:Int} {k:Nat} {w:Nat->E6} {z:Nat} {d:Nat->E6} {m N:Nat} {v:Nat->E6} {hs:Key->Bool} {gt:Key->V}
theorem Ad5 (hz:BG z=true) (hN:N <= 16) (hm:m <= 112):∀ (ds:List (List Nat)) (L:Nat) (x:Nat->Int) (M:Nat),Rem A n m v N ds L x->ds.length<M ->
  (ds.find? (MG v z d)=none∧∃ L' x',(Ax B28 AgB M (S28 A n k w z d m v L x hs gt)).sem=some (Ao6 A n k w z d m v L' x' hs gt)) ∨ ∃ e L' x',ds.find? (MG v z d)=some e∧Rep e L' x'∧(Ax B28 AgB M (S28 A n k w z d m v L x hs gt)).sem=some (Ao7 A n k w z d m v L' x' hs gt)
 | [],L,x,M,hR,hM=>by
  obtain ⟨M,rfl⟩:∃ o,M=o+1:=⟨M-1,by omega⟩;obtain ⟨x',hE⟩:=hR;exact .inl ⟨rfl,0,x',Ae (t:=some (.ex 0,_)) (DW.rd (.a (CX hE) <| .k eF <| .l) (by kernel_rfl))⟩
 | e::ds,L,x,M,hR,hM=>by
  obtain ⟨M,rfl⟩:∃ o,M=o+1:=⟨M-1,by omega⟩;obtain ⟨L2,x2,hE,hr,hi,hR⟩:=hR;have hL:=hr.len;have hle:=hi.le;have hsr:=hr.sr hi (by omega) (by omega);have hk:=Adl (L:=L2) (by omega);have hf:BG L2=true:=decide_eq_true (by omega);have hq:EG L2 (λi=>v (toN (x2 i))) z d=EG e.length (wE v e) z d:=by
   rw [<- hL];exact KY λi hi=>by rw [hr.at_ i hi]; rfl
  cases hc:MG v z d e with
  | true =>
   have hc':ilt 0 (EG L2 (λi=>v (toN (x2 i))) z d)=true:=by rw [hq]; exact hc
   refine .inr ⟨e,L2,x2,by rw [List.find?_cons,hc],hr,Ae (t:=some (.rt,_)) (DW.rd (.a (CX hE) <| .k eT <| .k (eL m) <| .k (eL L2) <| .k hsr <| .k hk <| .k (rbE L2 λk=>v (toN (x2 k))) <| .k (eL L2) <| .k (eL z) <| .k hf <| .k hz <| .k hc' <| .k (eN eF) <| .l) (by kernel_rfl))⟩
  | false =>
   have hc':ilt 0 (EG L2 (λi=>v (toN (x2 i))) z d)=false:=by rw [hq]; exact hc
   have hn:Ap B28 AgB (S28 A n k w z d m v L x hs gt)=some (.nm,S28 A n k w z d m v L2 x2 hs gt):=DW.rd (.a (CX hE) <| .k eT <| .k (eL m) <| .k (eL L2) <| .k hsr <| .k hk <| .k (rbE L2 λk=>v (toN (x2 k))) <| .k (eL L2) <| .k (eL z) <| .k hf <| .k hz <| .k hc' <| .k (eN eT) <| .l) (by kernel_rfl)
   rw [Ae hn,AN,List.find?_cons,hc];exact Ad5 hz hN hm ds L2 x2 M hR (by simpa using hM)
end
def Nj (A:Int) (k:Nat) (w:Nat->E6) (n:Int) (z:Nat) (d:Nat->E6):Option (List Nat):=(Ih A k w n).find? (MG (Cq k w) z d)
noncomputable def Cv (A:Int) (k:Nat) (w:Nat->E6) (n:Int) (z:Nat) (d:Nat->E6):Int :=
 sel (ieq (Dt A k w n) 0) (sel (By z d) (sel (FT k w n) 3 (match Nj A k w n z d with | some _=>0 | none=>4)) 30) (Dt A k w n)
noncomputable def C7 (A:Int) (k:Nat) (w:Nat->E6) (n:Int) (z:Nat) (d:Nat->E6):List E6 :=
 sel (ieq (Cv A k w n z d) 0) (match Nj A k w n z d with | some e=>(List.range e.length).map (wE (Cq k w) e) | none=>[]) []
noncomputable def S5:List V->A2
 | [.val (.int .i64 A),u,.val (.int .i64 n),c]=>apL u λk w=>apL c λz d=>.br (BG z) (.leaf (.tup [.ref 0,iV (Cv A k w n z d)],[.row 46 6 (C7 A k w n z d).length λt=>eV ((C7 A k w n z d).getD t Bv)])) .fail
 | _=>.fail
theorem Hq {l:List E6} (h:l=[]):Au [.row 46 6 0 λ_=>.und] [.row 46 6 l.length λt=>eV (l.getD t Bv)]:=by
 subst h;exact Au.one λ_ h=>absurd h (Nat.not_lt_zero _)
theorem WG {k:Nat} {w:Nat->E6} {A n:Int} (h:ieq (Dt A k w n) 0=true):Pb k w n=true:=by
 obtain ⟨g1,g2,g3,g4⟩:=Na h;have g2':¬ n<2:=of_decide_eq_false g2;have g3':¬ 16<n:=of_decide_eq_false g3;unfold Pb;rw [g1,show ile 2 n=true from decide_eq_true (by omega),show ile n 16=true from decide_eq_true (by omega),decide_eq_true g4];rfl
theorem p28:As Tryz.prog Gl 28 S5:=by
 refine LH Api λvs u h' h=>?_;unfold S5 at h;split at h
 rotate_left
 ·cases h
 rename_i A u0 n c;obtain ⟨k,w,ha,h⟩:=AQ h;obtain ⟨z,d,hb,h⟩:=AQ h;obtain ⟨hz,h⟩:=Ab h;cases Aa h;have hv:B0 [iV A,u0,iV n,c] [iV A,Am k w,iV n,Am z d]:=λS W cs hq=>by
  obtain ⟨c,l,rfl,q1,c2,l2,rfl,q2,c3,l3,rfl,q3,c4,l4,rfl,q4,q5⟩:=hq;exact ⟨c,_,rfl,q1,c2,_,rfl,ha S W c2 q2,c3,_,rfl,q3,c4,_,rfl,hb S W c4 q4,q5⟩
 cases h1:ieq (Dt A k w n) 0 with
 | false =>
  have he:Cv A k w n z d=Dt A k w n:=by unfold Cv; rw [h1]; rfl
  have hr:C7 A k w n z d=[]:=by unfold C7; rw [he,h1]; rfl
  rw [he];exact ⟨_,_,hv,DW.ok (.k (eL k) <| .k (eN h1) <| .l) (by kernel_rfl),Hq hr⟩
 | true =>
  cases h3:By z d with
  | false =>
   have he:Cv A k w n z d=30:=by unfold Cv; rw [h1,h3]; rfl
   have hr:C7 A k w n z d=[]:=by unfold C7; rw [he]; rfl
   have hF:ieq (Mx z d 0 λ_=>Bv) 0=false:=by unfold Mx; rw [h3]; rfl
   rw [he];exact ⟨_,_,hv,DW.ok (.k (eL k) <| .k (eN h1) <| .k (eL z) <| .k (show (CQ 0 λ_=>false)=true from rfl) <| .k hz <| .k (show BG 0=true from rfl) <| .k (eN hF) <| .l) (by kernel_rfl),Hq hr⟩
  | true =>
   have hF:ieq (Mx z d 0 λ_=>Bv) 0=true:=by unfold Mx; rw [h3]; rfl
   have hG:=WG h1;obtain ⟨g1,g2,g3,g4⟩:=Na h1;have g2':¬ n<2:=of_decide_eq_false g2;have g3':¬ 16<n:=of_decide_eq_false g3;cases h4:FT k w n with
   | true =>
    have he:Cv A k w n z d=3:=by unfold Cv; rw [h1,h3,h4]; rfl
    have hr:C7 A k w n z d=[]:=by unfold C7; rw [he]; rfl
    rw [he];exact ⟨_,_,hv,DW.ok (.k (eL k) <| .k (eN h1) <| .k (eL z) <| .k (show (CQ 0 λ_=>false)=true from rfl) <| .k hz <| .k (show BG 0=true from rfl) <| .k (eN hF) <| .k (eL k) <| .k hG <| .k h4 <| .l) (by kernel_rfl),Hq hr⟩
   | false =>
    have hc:Ci 0 k 40=true:=decide_eq_true (by omega);have hB:=W3 (a:=A) (n:=n) (k:=k) (e:=w) (by omega) λi hi=>by
     rcases BK (w i) with ⟨c,hc,_,hn,_⟩ | ⟨hb,_⟩
     ·rw [hn]; exact Ut hc
     ·rw [Bw.1 g1 i hi] at hb; cases hb
    obtain ⟨N,rfl⟩:∃ N:Nat,n=ofNat N:=⟨n.toNat,(Int.toNat_of_nonneg (by omega)).symm⟩;have hN:0<N∧N <= 16:=by simp only [Int.ofNat_eq_natCast] at *; omega
    have hm:DX k w <= 112:=Tq _ _;have hR:=Sj (a:=A) (n:=ofNat N) (v:=Cq k w) (x:=λ_=>0) rfl hN.1 hN.2 hm;have hF2:=Rh (n:=ofNat N) (v:=Cq k w) hm hN.2;have hlen:(Ih A k w (ofNat N)).length<10000000000000000000000000000000000000000000000000000:=by
     have h5:=List.length_filter_le (Me A (Cq k w)) (RN (ofNat N) (DX k w) (Cq k w) N);have h6:F43=10000000000000000000000000000000000000000000000000000:=rfl;rw [<- h6];show ((RN (ofNat N) (DX k w) (Cq k w) N).filter (Me A (Cq k w))).length<F43;omega
    have heq:Cv A k w (ofNat N) z d=(match Nj A k w (ofNat N) z d with | some _=>0 | none=>4):=by unfold Cv; rw [h1,h3,h4]; rfl
    rcases Ad5 (A:=A) (n:=ofNat N) (k:=k) (w:=w) (d:=d) hz hN.2 hm (hs:=hsC w k) (gt:=λy=>eV (gtC w k y)) _ _ _ _ hR hlen with ⟨hq,L',x',hr⟩ | ⟨e,L',x',hq,hp,hr⟩
    ·have hq:Nj A k w (ofNat N) z d=none:=hq
     have he:Cv A k w (ofNat N) z d=4:=by rw [heq,hq]
     have hr0:C7 A k w (ofNat N) z d=[]:=by unfold C7; rw [he]; rfl
     rw [he];exact ⟨_,_,hv,DW.ok (.k (eL k) <| .k (eN h1) <| .k (eL z) <| .k (show (CQ 0 λ_=>false)=true from rfl) <| .k hz <| .k (show BG 0=true from rfl) <| .k (eN hF) <| .k (eL k) <| .k hG <| .k h4 <| .k (eL k) <| .k hc <| .k (eL k) <| .r 3 (eN h1) <| .k (eL k) <| .k hG <| .k (eN h1) <| .k h4 <| .a (CX hB) <| .a hr <| .l) (by kernel_rfl),Hq hr0⟩
    ·have hq:Nj A k w (ofNat N) z d=some e:=hq
     have he:Cv A k w (ofNat N) z d=0:=by rw [heq,hq]
     have hr0:C7 A k w (ofNat N) z d=(List.range e.length).map (wE (Cq k w) e):=by unfold C7; rw [he,hq]; rfl
     rw [he,hr0];refine ⟨_,[.row 46 6 L' λk'=>eV (Cq k w (toN (x' k')))],hv,DW.ok (.k (eL k) <| .k (eN h1) <| .k (eL z) <| .k (show (CQ 0 λ_=>false)=true from rfl) <| .k hz <| .k (show BG 0=true from rfl) <| .k (eN hF) <| .k (eL k) <| .k hG <| .k h4 <| .k (eL k) <| .k hc <| .k (eL k) <| .r 3 (eN h1) <| .k (eL k) <| .k hG <| .k (eN h1) <| .k h4 <| .a (CX hB) <| .a hr <| .l) (by kernel_rfl),?_⟩
     have hl:((List.range e.length).map (wE (Cq k w) e)).length=L':=by rw [List.length_map,List.length_range,hp.len]
     rw [hl];exact Au.one λt ht=>by
      rw [Xm _ _ (by rw [<- hp.len]; exact ht),hp.at_ t ht];rfl
end Go.Proofs.YtkbgidbledjejaaGreat.En
