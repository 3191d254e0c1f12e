/-
  Layer 10: instructions that may be; the register that one writes (the document's Check, Uses, isName). No conditions.
-/
import Derived.Test.YtkbafjceglhjhaaGreatDoorErD
import Derived.Test.YtkbafjceglhjhaaGreatDoorSyZ
import Derived.Shelf.Strings.OnBuilder
import Derived.Test.YtkbafjceglhjhaaGreatDoorCyT
namespace Go.Proofs.YtkbafjceglhjhaaGreatDoor.Er
open Go.Sy Go Go.Proofs.YtkbafjceglhjhaaGreatDoor.Ed Go.Proofs.YtkbafjceglhjhaaGreatDoor.Sh
set_option maxRecDepth 100000
set_option maxHeartbeats 1000000
theorem eSq (l:List UInt8):seq l l=true:=by simp [seq]
theorem AcF {a b:Int} (h:ilt a b=true):ilt b a=false:=decide_eq_false (by have:=of_decide_eq_true h; omega)
theorem Y0 (a:Int):ilt a a=false:=decide_eq_false (by omega)
noncomputable def pB (p:Prop):Bool:=@decide p (Classical.propDecidable p)
theorem Ik {p:Prop} (h:p):pB p=true:=@decide_eq_true p (Classical.propDecidable p) h
theorem GO {p:Prop} (h:pB p=true):p:=@of_decide_eq_true p (Classical.propDecidable p) h
def rgB (z:Int):Bool:=Al (ile 0 z) (ile z 31)
def rgT:List V->A5
 | [.val (.int .i64 z)]=>.br (rgB z) (.leaf (bV true,[])) .fail
 | _=>.fail
theorem p84:Ap Tryz.prog Gl 84 rgT:=by
 refine Ah A2 mixed Tryz.func84 (by kernel_rfl) (by kernel_rfl) λvs v h' h=>?_;unfold rgT at h;split at h
 ·rename_i z
  have hx:=AS Ca [] (G:=Gl);exact ⟨_,cxA Gl tb0 [],_,Ba.refl _,rfl,hx.1,hx.2,DK.of h (.g λh0=>.r 3 (A9 h0).1 <| .e (congrArg (λb=>(bV b,([]:List Blk))) (A9 h0).2)) (by kernel_rfl),Am.refl _⟩
 ·cases h
def Xg (n:Nat):List UInt8:=bif ieq (Int.ofNat (Bq (Df (Int.ofNat n)))) 1 then BK [76,67] (BK [48] (Df (Int.ofNat n))) else BK [76,67] (Df (Int.ofNat n))
def nmB (t:List UInt8):Bool:=(List.range 32).any λk=>seq t (Xg k)
def nmT:List V->A5
 | [.str t]=>.br (nmB t) (.leaf (bV true,[])) .fail
 | _=>.fail
def tB:Option (V×List Blk)->Bool
 | some (.val (.bool true),[])=>true
 | _=>false
theorem Ai0 {o:Option (V×List Blk)} (h:tB o=true):o=some (bV true,[]):=by
 unfold tB at h;split at h
 ·rfl
 ·cases h
noncomputable def Ak5:A7:=Jk tab Gl [] [(126,Tryz.f126),(127,Tryz.f127)]
theorem Afz:Ao Tryz.prog Gl Ak5:=MH A2 mixed .nil (.cons Tryz.func126 (by kernel_rfl) <| .cons Tryz.func127 (by kernel_rfl) .nil)
theorem AlS:(List.range 32).all (λk=>tB (A0 (Aj tab (cxC Gl Ak5) Tryz.f83 [.str (Xg k)] [])).sem)=true:=by kernel_rfl
theorem Ap2 {t:List UInt8} (h:nmB t=true):∃ k,k<32∧t=Xg k:=by
 obtain ⟨k,hk,h⟩:=List.any_eq_true.1 h;exact ⟨k,by simpa using hk,by simpa [seq] using h⟩
theorem p83:Ap Tryz.prog Gl 83 nmT:=by
 refine Ah A2 mixed Tryz.func83 (by kernel_rfl) (by kernel_rfl) λvs v h' h=>?_;unfold nmT at h;split at h
 ·obtain ⟨h1,h2⟩:=Ac h
  obtain ⟨k,hk,rfl⟩:=Ap2 h1;have hx:=Jg Afz;have:=Ab h2;simp only [Prod.mk.injEq] at this;obtain ⟨rfl,rfl⟩:=this;exact ⟨_,cxC Gl Ak5,_,Ba.refl _,rfl,hx.1,hx.2,Ai0 (List.all_eq_true.1 AlS k (by simpa using hk)),Am.refl _⟩
 ·cases h
def Afs:V->Option In8
 | .agg [.val (.int .i64 a),.val (.int .i64 b),.val (.int .i64 c),.val (.int .i64 d),.val (.int .i64 e),.str f,.str g,.val (.int .i64 k)]=>some ⟨a,b,c,d,e,f,g,k⟩
 | _=>none
theorem ZC {v:V} {e:In8} (h:Afs v=some e):v=i8V e:=by
 unfold Afs at h;split at h
 ·simp only [Option.some.injEq] at h
  subst h;rfl
 ·cases h
def Ms (v:V):Bool:=match Afs v with
 | some _=>true
 | none=>false
def Tx (v:V):In8:=match Afs v with
 | some e=>e
 | none=>zI
theorem Mr {v:V} (h:Ms v=true):v=i8V (Tx v):=by
 unfold Ms at h;unfold Tx;split at h
 ·rename_i e he
  exact ZC he
 ·cases h
def Aey:Cod In8:=⟨8,i8V,Ms,Tx,λv h S w c hv=>by rw [<- Mr h]; exact hv⟩
inductive IsI:In8->Prop where
 | lw {d a:Int} (hd:rgB d=true) (ha:rgB a=true):IsI ⟨6,d,a,0,0,[],[],0⟩
 | sw {a:Int} (ha:rgB a=true) (h5:ilt 5 a=true):IsI ⟨7,0,a,5,0,[],[],0⟩
 | ori {a m:Int} (ha:rgB a=true) (hm:ile (-2048) m=true) (hm2:ile m 2047=true):IsI ⟨8,5,a,0,m,[],[],0⟩
 | xor {d a:Int} (hd:rgB d=true) (ha:rgB a=true):IsI ⟨9,d,a,a,0,[],[],0⟩
 | add {b:Int} (hb:rgB b=true) (h6:ilt 6 b=true):IsI ⟨10,6,6,b,0,[],[],0⟩
 | bne {a:Int} {t:List UInt8} (ha:rgB a=true) (h0:ilt 0 a=true) (ht:nmB t=true):IsI ⟨11,0,a,0,0,[],t,0⟩
 | lab {t:List UInt8} (ht:nmB t=true):IsI ⟨12,0,0,0,0,[],t,0⟩
 | fen {f:Int} (hf:ile 2 f=true) (hf2:ile f 11=true):IsI ⟨13,0,0,0,0,[],[],f⟩
noncomputable def Zl:List V->A5
 | [v]=>.br (Ms v) (.br (pB (IsI (Tx v))) (.leaf (iV 0,[])) .fail) .fail
 | _=>.fail
noncomputable def tb55:A7:=(83,nmT)::(84,rgT)::[]
theorem tb55_ok:Ao Tryz.prog Gl tb55:=.cons p83 <| .cons p84 .nil
theorem AnA (d a:Int) (hd:rgB d=true) (ha:rgB a=true):(A0 (Aj tab (cxA Gl tb55 []) Tryz.f55 [.agg [iV 6,iV d,iV a,iV 0,iV 0,.str [],.str [],iV 0]] [])).sem=some (iV 0,[]):=DK.of (C:=.leaf (iV 0,[])) rfl (.k (eI 6) <| .r 4 (eN eT) <| .r 3 (eN (eA (eI 6) (eA (eI d) (eA (eI a) (eA (eI 0) (eA (eI 0) (eA (eSq []) (eA (eSq []) (eA (eI 0) eT))))))))) <| .k hd <| .r 2 (eN (eA (eI 6) (eA (eI d) (eA (eI a) (eA (eI 0) (eA (eI 0) (eA (eSq []) (eA (eSq []) (eA (eI 0) eT))))))))) <| .r 3 (eN eT) <| .k ha <| .r 5 (eN eT) <| .k (show rgB 0=true from rfl) <| .r 3 (eN eT) <| .l) (by kernel_rfl)
theorem An9 (a:Int) (ha:rgB a=true) (h5:ilt 5 a=true):(A0 (Aj tab (cxA Gl tb55 []) Tryz.f55 [.agg [iV 7,iV 0,iV a,iV 5,iV 0,.str [],.str [],iV 0]] [])).sem=some (iV 0,[]):=DK.of (C:=.leaf (iV 0,[])) rfl (.k (show ieq 7 6=false from rfl) <| .k (eI 7) <| .r 4 (eN eT) <| .r 3 (eN (eA (eI 7) (eA (eI 0) (eA (eI a) (eA (eI 5) (eA (eI 0) (eA (eSq []) (eA (eSq []) (eA (eI 0) eT))))))))) <| .k (show rgB 0=true from rfl) <| .r 2 (eN (eA (eI 7) (eA (eI 0) (eA (eI a) (eA (eI 5) (eA (eI 0) (eA (eSq []) (eA (eSq []) (eA (eI 0) eT))))))))) <| .r 3 (eN eT) <| .k ha <| .r 5 (eN eT) <| .k (show rgB 5=true from rfl) <| .r 3 (eN eT) <| .l) (by kernel_rfl)
theorem Akd (a m:Int) (ha:rgB a=true) (hm:ile (-2048) m=true) (hm2:ile m 2047=true):(A0 (Aj tab (cxA Gl tb55 []) Tryz.f55 [.agg [iV 8,iV 5,iV a,iV 0,iV m,.str [],.str [],iV 0]] [])).sem=some (iV 0,[]):=DK.of (C:=.leaf (iV 0,[])) rfl (.k (show ieq 8 6=false from rfl) <| .k (show ieq 8 7=false from rfl) <| .k (eI 8) <| .r 4 hm <| .r 4 (eN hm2) <| .r 3 (eN (eA (eI 8) (eA (eI 5) (eA (eI a) (eA (eI 0) (eA (eI m) (eA (eSq []) (eA (eSq []) (eA (eI 0) eT))))))))) <| .k (show rgB 5=true from rfl) <| .r 2 (eN (eA (eI 8) (eA (eI 5) (eA (eI a) (eA (eI 0) (eA (eI m) (eA (eSq []) (eA (eSq []) (eA (eI 0) eT))))))))) <| .r 3 (eN eT) <| .k ha <| .r 5 (eN eT) <| .k (show rgB 0=true from rfl) <| .r 3 (eN eT) <| .l) (by kernel_rfl)
theorem Akc (d a:Int) (hd:rgB d=true) (ha:rgB a=true):(A0 (Aj tab (cxA Gl tb55 []) Tryz.f55 [.agg [iV 9,iV d,iV a,iV a,iV 0,.str [],.str [],iV 0]] [])).sem=some (iV 0,[]):=DK.of (C:=.leaf (iV 0,[])) rfl (.k (show ieq 9 6=false from rfl) <| .k (show ieq 9 7=false from rfl) <| .k (show ieq 9 8=false from rfl) <| .r 2 (eI 9) <| .r 4 (eN eT) <| .r 3 (eN (eA (eI 9) (eA (eI d) (eA (eI a) (eA (eI a) (eA (eI 0) (eA (eSq []) (eA (eSq []) (eA (eI 0) eT))))))))) <| .k hd <| .r 2 (eN (eA (eI 9) (eA (eI d) (eA (eI a) (eA (eI a) (eA (eI 0) (eA (eSq []) (eA (eSq []) (eA (eI 0) eT))))))))) <| .r 3 (eN eT) <| .k ha <| .r 5 (eN eT) <| .k ha <| .r 3 (eN eT) <| .l) (by kernel_rfl)
theorem Akh (b:Int) (hb:rgB b=true) (h6:ilt 6 b=true):(A0 (Aj tab (cxA Gl tb55 []) Tryz.f55 [.agg [iV 10,iV 6,iV 6,iV b,iV 0,.str [],.str [],iV 0]] [])).sem=some (iV 0,[]):=DK.of (C:=.leaf (iV 0,[])) rfl (.k (show ieq 10 6=false from rfl) <| .k (show ieq 10 7=false from rfl) <| .k (show ieq 10 8=false from rfl) <| .k (show ieq 10 9=false from rfl) <| .k (eI 10) <| .r 4 (eN eT) <| .r 3 (eN (eA (eI 10) (eA (eI 6) (eA (eI 6) (eA (eI b) (eA (eI 0) (eA (eSq []) (eA (eSq []) (eA (eI 0) eT))))))))) <| .k (show rgB 6=true from rfl) <| .r 2 (eN (eA (eI 10) (eA (eI 6) (eA (eI 6) (eA (eI b) (eA (eI 0) (eA (eSq []) (eA (eSq []) (eA (eI 0) eT))))))))) <| .r 3 (eN eT) <| .k (show rgB 6=true from rfl) <| .r 5 (eN eT) <| .k hb <| .r 3 (eN eT) <| .l) (by kernel_rfl)
theorem Akg (a:Int) (t:List UInt8) (ha:rgB a=true) (h0:ilt 0 a=true) (ht:nmB t=true):(A0 (Aj tab (cxA Gl tb55 []) Tryz.f55 [.agg [iV 11,iV 0,iV a,iV 0,iV 0,.str [],.str t,iV 0]] [])).sem=some (iV 0,[]):=DK.of (C:=.leaf (iV 0,[])) rfl (.k (show ieq 11 6=false from rfl) <| .k (show ieq 11 7=false from rfl) <| .k (show ieq 11 8=false from rfl) <| .k (show ieq 11 9=false from rfl) <| .k (show ieq 11 10=false from rfl) <| .k (eI 11) <| .k ht <| .r 4 (eN eT) <| .r 3 (eN (eA (eI 11) (eA (eI 0) (eA (eI a) (eA (eI 0) (eA (eI 0) (eA (eSq []) (eA (eSq t) (eA (eI 0) eT))))))))) <| .k (show rgB 0=true from rfl) <| .r 2 (eN (eA (eI 11) (eA (eI 0) (eA (eI a) (eA (eI 0) (eA (eI 0) (eA (eSq []) (eA (eSq t) (eA (eI 0) eT))))))))) <| .r 3 (eN eT) <| .k ha <| .r 5 (eN eT) <| .k (show rgB 0=true from rfl) <| .r 3 (eN eT) <| .l) (by kernel_rfl)
theorem Ake (t:List UInt8) (ht:nmB t=true):(A0 (Aj tab (cxA Gl tb55 []) Tryz.f55 [.agg [iV 12,iV 0,iV 0,iV 0,iV 0,.str [],.str t,iV 0]] [])).sem=some (iV 0,[]):=DK.of (C:=.leaf (iV 0,[])) rfl (.k (show ieq 12 6=false from rfl) <| .k (show ieq 12 7=false from rfl) <| .k (show ieq 12 8=false from rfl) <| .k (show ieq 12 9=false from rfl) <| .k (show ieq 12 10=false from rfl) <| .k (show ieq 12 11=false from rfl) <| .k (eI 12) <| .k ht <| .r 4 (eN eT) <| .r 3 (eN (eA (eI 12) (eA (eI 0) (eA (eI 0) (eA (eI 0) (eA (eI 0) (eA (eSq []) (eA (eSq t) (eA (eI 0) eT))))))))) <| .k (show rgB 0=true from rfl) <| .r 2 (eN (eA (eI 12) (eA (eI 0) (eA (eI 0) (eA (eI 0) (eA (eI 0) (eA (eSq []) (eA (eSq t) (eA (eI 0) eT))))))))) <| .r 3 (eN eT) <| .k (show rgB 0=true from rfl) <| .r 5 (eN eT) <| .k (show rgB 0=true from rfl) <| .r 3 (eN eT) <| .l) (by kernel_rfl)
theorem Akf (f:Int) (hf:ile 2 f=true) (hf2:ile f 11=true):(A0 (Aj tab (cxA Gl tb55 []) Tryz.f55 [.agg [iV 13,iV 0,iV 0,iV 0,iV 0,.str [],.str [],iV f]] [])).sem=some (iV 0,[]):=DK.of (C:=.leaf (iV 0,[])) rfl (.k (show ieq 13 6=false from rfl) <| .k (show ieq 13 7=false from rfl) <| .k (show ieq 13 8=false from rfl) <| .k (show ieq 13 9=false from rfl) <| .k (show ieq 13 10=false from rfl) <| .k (show ieq 13 11=false from rfl) <| .k (show ieq 13 12=false from rfl) <| .k (eI 13) <| .r 4 hf <| .r 4 (eN hf2) <| .r 3 (eN (eA (eI 13) (eA (eI 0) (eA (eI 0) (eA (eI 0) (eA (eI 0) (eA (eSq []) (eA (eSq []) (eA (eI f) eT))))))))) <| .k (show rgB 0=true from rfl) <| .r 2 (eN (eA (eI 13) (eA (eI 0) (eA (eI 0) (eA (eI 0) (eA (eI 0) (eA (eSq []) (eA (eSq []) (eA (eI f) eT))))))))) <| .r 3 (eN eT) <| .k (show rgB 0=true from rfl) <| .r 5 (eN eT) <| .k (show rgB 0=true from rfl) <| .r 3 (eN eT) <| .l) (by kernel_rfl)
theorem p55:Ap Tryz.prog Gl 55 Zl:=by
 refine Ah A2 mixed Tryz.func55 (by kernel_rfl) (by kernel_rfl) λvs v h' h=>?_;unfold Zl at h;split at h
 ·rename_i u
  obtain ⟨h1,h⟩:=Ac h;obtain ⟨h2,h⟩:=Ac h;have:=Ab h;simp only [Prod.mk.injEq] at this;obtain ⟨rfl,rfl⟩:=this;have hx:=AS tb55_ok [] (G:=Gl);refine ⟨_,cxA Gl tb55 [],_,Ba.refl _,rfl,hx.1,hx.2,?_,Am.refl _⟩;rw [Mr h1];generalize Tx u=I at h2;cases GO h2 with
  | lw hd ha=>exact AnA _ _ hd ha
  | sw ha h5=>exact An9 _ ha h5
  | ori ha hm hm2=>exact Akd _ _ ha hm hm2
  | xor hd ha=>exact Akc _ _ hd ha
  | add hb h6=>exact Akh _ hb h6
  | bne ha h0 ht=>exact Akg _ _ ha h0 ht
  | lab ht=>exact Ake _ ht
  | fen hf hf2=>exact Akf _ hf hf2
 ·cases h
def dsI (I:In8):Int:=bif ieq I.op 6 then I.d else bif ieq I.op 8 then 5 else bif ieq I.op 9 then I.d else bif ieq I.op 10 then 6 else -1
noncomputable def Abk:List V->A5
 | [v]=>.br (Ms v) (.br (pB (IsI (Tx v))) (.leaf (.tup [.und,iV (dsI (Tx v)),iV 0],[])) .fail) .fail
 | _=>.fail
noncomputable def Qm:A7:=(55,Zl)::[]
theorem AfF:Ao Tryz.prog Gl Qm:=.cons p55 .nil
theorem AnD (d a:Int) (hd:rgB d=true) (ha:rgB a=true):(Tt [false,true,true] (Aj tab (cxA Gl Qm []) Tryz.f30 [.agg [iV 6,iV d,iV a,iV 0,iV 0,.str [],.str [],iV 0]] [])).sem=some (.tup [.und,iV d,iV 0],[]):=DK.of (C:=.leaf (.tup [.und,iV d,iV 0],[])) rfl (.k (show Ms (.agg [iV 6,iV d,iV a,iV 0,iV 0,.str [],.str [],iV 0])=true from rfl) <| .k (Ik (IsI.lw hd ha)) <| .k (eN (eI 0)) <| .k (show ieq 6 12=false from rfl) <| .k (show ieq 6 13=false from rfl) <| .r 2 (eI 6) <| .r 7 eF <| .k (show Bs 0 1 8=true from by decide) <| .r 7 eF <| .l) (by kernel_rfl)
theorem AnC (a:Int) (ha:rgB a=true) (h5:ilt 5 a=true):(Tt [false,true,true] (Aj tab (cxA Gl Qm []) Tryz.f30 [.agg [iV 7,iV 0,iV a,iV 5,iV 0,.str [],.str [],iV 0]] [])).sem=some (.tup [.und,iV (-1),iV 0],[]):=DK.of (C:=.leaf (.tup [.und,iV (-1),iV 0],[])) rfl (.k (show Ms (.agg [iV 7,iV 0,iV a,iV 5,iV 0,.str [],.str [],iV 0])=true from rfl) <| .k (Ik (IsI.sw ha h5)) <| .k (eN (eI 0)) <| .k (show ieq 7 12=false from rfl) <| .k (show ieq 7 13=false from rfl) <| .k (show ieq 7 6=false from rfl) <| .k (show ieq 7 8=false from rfl) <| .k (show ieq 7 9=false from rfl) <| .k (show ieq 7 10=false from rfl) <| .r 2 (eI 7) <| .r 6 eT <| .k h5 <| .k (show Bs 0 1 8=true from by decide) <| .k (show Bs (AE 0 1) 1 8=true from by decide) <| .r 6 eT <| .k (AcF h5) <| .l) (by kernel_rfl)
theorem Akj (a m:Int) (ha:rgB a=true) (hm:ile (-2048) m=true) (hm2:ile m 2047=true):(Tt [false,true,true] (Aj tab (cxA Gl Qm []) Tryz.f30 [.agg [iV 8,iV 5,iV a,iV 0,iV m,.str [],.str [],iV 0]] [])).sem=some (.tup [.und,iV 5,iV 0],[]):=DK.of (C:=.leaf (.tup [.und,iV 5,iV 0],[])) rfl (.k (show Ms (.agg [iV 8,iV 5,iV a,iV 0,iV m,.str [],.str [],iV 0])=true from rfl) <| .k (Ik (IsI.ori ha hm hm2)) <| .k (eN (eI 0)) <| .k (show ieq 8 12=false from rfl) <| .k (show ieq 8 13=false from rfl) <| .k (show ieq 8 6=false from rfl) <| .k (eI 8) <| .r 7 eF <| .k (show Bs 0 1 8=true from by decide) <| .r 7 eF <| .l) (by kernel_rfl)
theorem Aki (d a:Int) (hd:rgB d=true) (ha:rgB a=true):(Tt [false,true,true] (Aj tab (cxA Gl Qm []) Tryz.f30 [.agg [iV 9,iV d,iV a,iV a,iV 0,.str [],.str [],iV 0]] [])).sem=some (.tup [.und,iV d,iV 0],[]):=DK.of (C:=.leaf (.tup [.und,iV d,iV 0],[])) rfl (.k (show Ms (.agg [iV 9,iV d,iV a,iV a,iV 0,.str [],.str [],iV 0])=true from rfl) <| .k (Ik (IsI.xor hd ha)) <| .k (eN (eI 0)) <| .k (show ieq 9 12=false from rfl) <| .k (show ieq 9 13=false from rfl) <| .k (show ieq 9 6=false from rfl) <| .k (show ieq 9 8=false from rfl) <| .r 2 (eI 9) <| .r 6 eT <| .k (Y0 a) <| .k (show Bs 0 1 8=true from by decide) <| .r 6 eT <| .k (Y0 a) <| .l) (by kernel_rfl)
theorem Akn (b:Int) (hb:rgB b=true) (h6:ilt 6 b=true):(Tt [false,true,true] (Aj tab (cxA Gl Qm []) Tryz.f30 [.agg [iV 10,iV 6,iV 6,iV b,iV 0,.str [],.str [],iV 0]] [])).sem=some (.tup [.und,iV 6,iV 0],[]):=DK.of (C:=.leaf (.tup [.und,iV 6,iV 0],[])) rfl (.k (show Ms (.agg [iV 10,iV 6,iV 6,iV b,iV 0,.str [],.str [],iV 0])=true from rfl) <| .k (Ik (IsI.add hb h6)) <| .k (eN (eI 0)) <| .k (show ieq 10 12=false from rfl) <| .k (show ieq 10 13=false from rfl) <| .k (show ieq 10 6=false from rfl) <| .k (show ieq 10 8=false from rfl) <| .k (show ieq 10 9=false from rfl) <| .k (eI 10) <| .r 6 eT <| .k (AcF h6) <| .k (show Bs 0 1 8=true from by decide) <| .r 6 eT <| .k h6 <| .k (show Bs (AE 0 1) 1 8=true from by decide) <| .l) (by kernel_rfl)
theorem Akm (a:Int) (t:List UInt8) (ha:rgB a=true) (h0:ilt 0 a=true) (ht:nmB t=true):(Tt [false,true,true] (Aj tab (cxA Gl Qm []) Tryz.f30 [.agg [iV 11,iV 0,iV a,iV 0,iV 0,.str [],.str t,iV 0]] [])).sem=some (.tup [.und,iV (-1),iV 0],[]):=DK.of (C:=.leaf (.tup [.und,iV (-1),iV 0],[])) rfl (.k (show Ms (.agg [iV 11,iV 0,iV a,iV 0,iV 0,.str [],.str t,iV 0])=true from rfl) <| .k (Ik (IsI.bne ha h0 ht)) <| .k (eN (eI 0)) <| .k (show ieq 11 12=false from rfl) <| .k (show ieq 11 13=false from rfl) <| .k (show ieq 11 6=false from rfl) <| .k (show ieq 11 8=false from rfl) <| .k (show ieq 11 9=false from rfl) <| .k (show ieq 11 10=false from rfl) <| .k (show ieq 11 7=false from rfl) <| .k (eI 11) <| .r 6 eT <| .k h0 <| .k (show Bs 0 1 8=true from by decide) <| .k (show Bs (AE 0 1) 1 8=true from by decide) <| .r 6 eT <| .k (AcF h0) <| .l) (by kernel_rfl)
theorem Akk (t:List UInt8) (ht:nmB t=true):(Tt [false,true,true] (Aj tab (cxA Gl Qm []) Tryz.f30 [.agg [iV 12,iV 0,iV 0,iV 0,iV 0,.str [],.str t,iV 0]] [])).sem=some (.tup [.und,iV (-1),iV 0],[]):=DK.of (C:=.leaf (.tup [.und,iV (-1),iV 0],[])) rfl (.k (show Ms (.agg [iV 12,iV 0,iV 0,iV 0,iV 0,.str [],.str t,iV 0])=true from rfl) <| .k (Ik (IsI.lab ht)) <| .k (eN (eI 0)) <| .r 2 (eI 12) <| .l) (by kernel_rfl)
theorem Akl (f:Int) (hf:ile 2 f=true) (hf2:ile f 11=true):(Tt [false,true,true] (Aj tab (cxA Gl Qm []) Tryz.f30 [.agg [iV 13,iV 0,iV 0,iV 0,iV 0,.str [],.str [],iV f]] [])).sem=some (.tup [.und,iV (-1),iV 0],[]):=DK.of (C:=.leaf (.tup [.und,iV (-1),iV 0],[])) rfl (.k (show Ms (.agg [iV 13,iV 0,iV 0,iV 0,iV 0,.str [],.str [],iV f])=true from rfl) <| .k (Ik (IsI.fen hf hf2)) <| .k (eN (eI 0)) <| .k (show ieq 13 12=false from rfl) <| .k (eI 13) <| .l) (by kernel_rfl)
theorem p30:Ap Tryz.prog Gl 30 Abk:=by
 refine Ox A2 mixed Tryz.func30 (by kernel_rfl) (by kernel_rfl) [false,true,true] λvs v h' h=>?_;unfold Abk at h;split at h
 ·rename_i u
  obtain ⟨h1,h⟩:=Ac h;obtain ⟨h2,h⟩:=Ac h;have:=Ab h;simp only [Prod.mk.injEq] at this;obtain ⟨rfl,rfl⟩:=this;have hx:=AS AfF [] (G:=Gl);refine ⟨_,cxA Gl Qm [],Ba.refl _,rfl,hx.1,hx.2,?_⟩;rw [Mr h1];revert h2;generalize Tx u=I;intro h2;have e:∀ I,Tx (i8V I)=I:=λ_=>rfl;cases GO h2 with
  | lw hd ha=>exact AnD _ _ hd ha
  | sw ha h5=>exact AnC _ ha h5
  | ori ha hm hm2=>exact Akj _ _ ha hm hm2
  | xor hd ha=>exact Aki _ _ hd ha
  | add hb h6=>exact Akn _ hb h6
  | bne ha h0 ht=>exact Akm _ _ ha h0 ht
  | lab ht=>exact Akk _ ht
  | fen hf hf2=>exact Akl _ hf hf2
 ·cases h
end Go.Proofs.YtkbafjceglhjhaaGreatDoor.Er
namespace Go.Proofs.YtkbafjceglhjhaaGreatDoor.Er
open Go.Sy Go Go.Proofs.YtkbafjceglhjhaaGreatDoor.Ed Go.Proofs.YtkbafjceglhjhaaGreatDoor.Sh
open Int (ofNat)
set_option maxRecDepth 100000
set_option maxHeartbeats 1000000
structure LkOK (n:Nat) (f:Nat->In8):Prop where
 hn:n <= 256
 ok:∀ i,i<n->IsI (f i)
 lab:∀ i,i<n->ieq (f i).op 12=true->∀ k,k<i->ieq (f k).op 12=true->seq (f k).lab (f i).lab=false
 bne:∀ i,i<n->ieq (f i).op 11=true->i+1<n∧ieq (f (i+1)).op 12=true∧seq (f (i+1)).lab (f i).lab=true
section
variable (n:Nat) (f:Nat->In8)
def atF (i:Nat):Int:=bif ieq (f i).op 11 then ofNat (i+1) else -1
def h29 (b:Nat):List Blk:=[.row 3 1 0 Aa,.row 3 1 0 Aa,.row 3 1 b (λk=>iV (atF f k))]
def S29 (c:Int) (_:Unit):St:=⟨jsV 115 0 Aa [(0,.sl 8 n (λi=>i8V (f i))),(5,.ref 1),(6,iV c)],[.row 3 1 0 Aa,.row 3 1 0 Aa]⟩
def AhC:Ex×St:=(.ex 0,⟨jsV 115 0 Aa [(0,.sl 8 n (λi=>i8V (f i))),(5,.ref 1)],[.row 3 1 0 Aa,.row 3 1 0 Aa]⟩)
def Aj8 (c:Int) (m:Nat) (g:Nat->V):St:=⟨jsV 115 0 Aa [(0,.sl 8 n (λi=>i8V (f i))),(5,.ref 1),(7,.ref 2),(8,iV c)],[.row 3 1 0 Aa,.row 3 1 0 Aa,.row 3 1 m g]⟩
def VU (c:Int) (_:Unit):St:=Aj8 n f c (toN c) (λk=>iV (atF f k))
def Tp:Ex×St:=(.ex 2,⟨jsV 115 0 Aa [(7,.ref 2)],h29 f n⟩)
def AeW (b:Nat) (c:Int) (_:Unit):St:=⟨jsV 115 0 Aa [(0,.sl 8 n (λi=>i8V (f i))),(5,.ref 1),(7,.ref 2),(8,nV b),(9,iV (-1)),(10,iV c)],h29 f b⟩
def To (b:Nat):Ex×St:=(.ex 4,⟨jsV 115 0 Aa [(0,.sl 8 n (λi=>i8V (f i))),(5,.ref 1),(7,.ref 2),(8,nV b),(9,iV (-1))],h29 f b⟩)
def Ajm (i:Nat) (_:Unit):T (Unit ⊕ (Ex×St)):=.br (ieq (f i).op 12) (.leaf (.inl ())) (.leaf (.inl ()))
def VT (b:Nat) (at9:Int) (c:Int):St:=⟨jsV 115 0 Aa [(0,.sl 8 n (λi=>i8V (f i))),(5,.ref 1),(7,.ref 2),(8,nV b),(9,iV at9),(11,iV c)],h29 f b⟩
def Pt (b:Nat):Ex×St:=(.ex 6,⟨jsV 115 0 Aa [(0,.sl 8 n (λi=>i8V (f i))),(5,.ref 1),(7,.ref 2),(8,nV b),(9,iV (ofNat (b+1)))],h29 f b⟩)
def Ajn (i:Nat) (_:Unit):T (Unit ⊕ (Ex×St)):=.br (ieq (f i).op 12) (.leaf (.inl ())) (.br (ieq (f i).op 11) (.leaf (.inl ())) (.leaf (.inl ())))
def g29 (_:Nat) (_:Unit):T (Unit ⊕ (Ex×St)):=.leaf (.inl ())
end
noncomputable def AkC:A7:=(55,Zl)::[]
theorem AfG:Ao Tryz.prog Gl AkC:=.cons p55 .nil
def ApO:Lp:=⟨bmK 115 0 [0,5,6],2,bmK 115 0 [0,5],2,4611686018427387905⟩
def AcU:Lp:=⟨bmK 115 0 [0,5,7,8],3,bmK 115 0 [7],3,4611686018427387905⟩
def AcT:Lp:=⟨bmK 115 0 [0,5,7,8,9,10],3,bmK 115 0 [0,5,7,8,9],3,4611686018427387905⟩
def SI:Lp:=⟨bmK 115 0 [0,5,7,8,9,11],3,bmK 115 0 [0,5,7,8,9],3,4611686018427387905⟩
noncomputable def B29 (id:Nat) (L:LT):St->T (Ex×St):=λst=>AA tab ⟨Aw AkC,L,Gl⟩ (As Tryz.f29 id) id st
section
variable (L:LT) {n:Nat} {f:Nat->In8} (hk:LkOK n f)
include hk
theorem r29:(Av (B29 0 L) ApO 4611686018427387905 (S29 n f 0 ())).sem=some (AhC n f) :=
 AZ (R:=exR) BF (S:=λc a _=>S29 n f c a) (j:=λ_=>.und) (g:=g29) (fin:=λ_=>AhC n f) (e:=AhC n f) (n:=n) (by have:=hk.hn; omega)
  (λi a j r hi he=>DK.ok (L:=goR (λc a _=>S29 n f c a) exR i) (.k (ofNat_lt hi) <| .k (Ad hi) <| .k eT <| .k (Ik (hk.ok i hi)) <| .k (eN (eI 0)) <| .l) (by kernel_rfl) he)
  (λa j=>DK.ok (C:=.leaf (AhC n f)) (L:=exR) (.k (A1 (Nat.le_refl n)) .l) (by kernel_rfl) rfl) (Nat.zero_add _).symm (by have:=hk.hn; omega)
  (Cv (acc:=λ_=>()) (λ_ _=>rfl) _ _ (Nat.zero_add _))
theorem AoR {b:Nat} (hb:b<n) (h12:ieq (f b).op 12=true):(Av (B29 4 L) AcT 4611686018427387905 (AeW n f b 0 ())).sem=some (To n f b) :=
 AZ (R:=exR) BF (S:=λc a _=>AeW n f b c a) (j:=λ_=>.und) (g:=Ajm f) (fin:=λ_=>To n f b) (e:=To n f b) (n:=b) (by have:=hk.hn; omega)
  (λi a j r hi he=>DK.ok (L:=goR (λc a _=>AeW n f b c a) exR i) (.k (ofNat_lt hi) <| .k (Ad (Nat.lt_trans hi hb)) <|
   .c (λh1=>.k h1 <| .r 2 h1 <| .k (Ad (Nat.lt_trans hi hb)) <| .r 5 h1 <| .k (Ad hb) <| .r 4 h1 <| .k (hk.lab b hb h12 i hi h1) <| .l) λh1=>.k h1 <| .r 11 h1 <| .k eF <| .l) (by kernel_rfl) he)
  (λa j=>DK.ok (C:=.leaf (To n f b)) (L:=exR) (.k (A1 (Nat.le_refl b)) .l) (by kernel_rfl) rfl) (Nat.zero_add _).symm (by have:=hk.hn; omega)
  (Cv (acc:=λ_=>()) (λi _=>by
   unfold Ajm;cases ieq (f i).op 12 <;> rfl) _ _ (Nat.zero_add _))
theorem AoQ {b:Nat} (hb:b<n) (h11:ieq (f b).op 11=true):(Av (B29 6 L) SI 4611686018427387905 (VT n f b (-1) (wr .i64 (Ai (ofNat b) 1)))).sem=some (Pt n f b):=by
 obtain ⟨h1,h2,h3⟩:=hk.bne b hb h11;have hn:=hk.hn;rw [EF hb (by omega)];have e1:Au (B29 6 L) SI (VT n f b (-1) (ofNat (b+1)))=some (Ex.nm,VT n f b (ofNat (b+1)) (wr .i64 (Ai (ofNat (b+1)) 1))) :=
  DK.ok (C:=.leaf ()) (L:=λ_=>(Ex.nm,VT n f b (ofNat (b+1)) (wr .i64 (Ai (ofNat (b+1)) 1)))) (.r 3 (ofNat_lt h1) <| .k (show ilt (-1) 0=true from rfl) <| .k (Ad h1) <| .r 3 h2 <| .k (Ad h1) <| .r 5 h2 <| .k (Ad hb) <| .r 4 h2 <| .k h3 <| .l) (by kernel_rfl) rfl
 have hz:ilt (ofNat (b+1)) 0=false:=decide_eq_false (by show ¬ (((b+1:Nat):Int)<0); omega);rw [Af e1];show (Av (B29 6 L) SI 4611686018427387904 (VT n f b (ofNat (b+1)) (wr .i64 (Ai (ofNat (b+1)) 1)))).sem=_;rw [EF h1 (by omega)];rcases Nat.lt_or_ge (b+2) n with h4 | h4
 ·rw [Af (t:=some (Pt n f b)) (DK.ok (C:=.leaf (Pt n f b)) (L:=λa=>a) (.r 3 (ofNat_lt h4) <| .k hz <| .l) (by kernel_rfl) rfl)]
  rfl
 ·rw [Af (t:=some (Pt n f b)) (DK.ok (C:=.leaf (Pt n f b)) (L:=λa=>a) (.r 3 (A1 h4) <| .k eF <| .l) (by kernel_rfl) rfl)]
  rfl
end
def QY (f:Nat->In8):List (Nat×Lp×List (Nat×(Nat->V))):=[(0,ApO,[]),(2,AcU,[(2,λk=>iV (atF f k))]),(4,AcT,[]),(6,SI,[])]
section
variable {n:Nat} {f:Nat->In8} (hk:LkOK n f)
include hk
theorem Amj {b:Nat} (hb:b<n) {x:Int} (h:x=atF f b):(Ex.nm,Aj8 n f (wr .i64 (Ai (ofNat b) 1)) (AE b 1) (AD b (λk=>iV (atF f k)) (iV x)))=(Ex.nm,VU n f (wr .i64 (Ai (ofNat b) 1)) ()):=by
 unfold VU;rw [EF hb (by have:=hk.hn; omega),Sp _ _ _ (by rw [h])];rfl
theorem AmL {b:Nat} (hb:b<n):Bs b 1 8=true:=decide_eq_true (by
 have:=hk.hn;omega)
theorem AoS:(Av (B29 2 (Go.Sy.askL (QY f))) AcU 4611686018427387905 (VU n f 0 ())).sem=some (Tp n f) :=
 AZ (R:=exR) BF (S:=λc a _=>VU n f c a) (j:=λ_=>.und) (g:=Ajn f) (fin:=λ_=>Tp n f) (e:=Tp n f) (n:=n) (by have:=hk.hn; omega)
  (λi a j r hi he=>DK.ok (L:=goR (λc a _=>VU n f c a) exR i) (.k (ofNat_lt hi) <| .k (Ad hi) <|
   .c (λh1=>.k h1 <| .a (AoR (Go.Sy.askL (QY f)) hk hi h1) <| .k (Ad hi) <| .k (Aa1 (j:=11) (BP h1)) <| .k (AmL hk hi) <| .e (Amj hk hi (x:=-1) (by unfold atF; rw [Aa1 (j:=11) (BP h1)]; rfl)))
    λh1=>.k h1 <| .k (Ad hi) <| .c (λh2=>.k h2 <| .a (AoQ (Go.Sy.askL (QY f)) hk hi h2) <| .k (show ilt (ofNat (i+1)) 0=false from decide_eq_false (by show ¬ (((i+1:Nat):Int)<0); omega)) <| .k (AmL hk hi) <| .e (Amj hk hi (x:=ofNat (i+1)) (by unfold atF; rw [h2]; rfl)))
     λh2=>.k h2 <| .k (AmL hk hi) <| .e (Amj hk hi (x:=-1) (by unfold atF; rw [h2]; rfl))) (by kernel_rfl) he)
  (λa j=>DK.ok (C:=.leaf (Tp n f)) (L:=exR) (.k (A1 (Nat.le_refl n)) .l) (by kernel_rfl) rfl) (Nat.zero_add _).symm (by have:=hk.hn; omega)
  (Cv (acc:=λ_=>()) (λi _=>by
   unfold Ajn;cases ieq (f i).op 12 <;> cases ieq (f i).op 11 <;> rfl) _ _ (Nat.zero_add _))
end
noncomputable def lkT:List V->A5
 | [v]=>apG Aey v λn f=>.br (pB (LkOK n f)) (.leaf (.tup [.und,iV 0,iV 0],[])) .fail
 | _=>.fail
theorem p29:Ap Tryz.prog Gl 29 lkT:=by
 refine Ox A2 mixed Tryz.func29 (by kernel_rfl) (by kernel_rfl) [false,true,true] λvs v h' h=>?_;unfold lkT at h;split at h
 ·obtain ⟨n,f,ha,h⟩:=B0 h
  obtain ⟨h1,h⟩:=Ac h;have hk:=GO h1;have:=Ab h;simp only [Prod.mk.injEq] at this;obtain ⟨rfl,rfl⟩:=this;have hx:=AS AfG (QY f) (G:=Gl);have h256:ilt 256 (ofNat n)=false:=decide_eq_false (by have:=hk.hn; show ¬ ((256:Int)<(n:Int)); omega);exact ⟨[.sl 8 n (λi=>i8V (f i))],cxA Gl AkC (QY f),λS w cs hq=>by
   obtain ⟨c,l,rfl,q1,q2⟩:=hq;exact ⟨c,_,rfl,ha S w c q1,q2⟩,rfl,hx.1,hx.2,DK.of (C:=.leaf (.tup [.und,iV 0,iV 0],[])) rfl (.k h256 <| .a (r29 (Go.Sy.askL (QY f)) hk) <| .a (AoS hk) <| .l) (by kernel_rfl)⟩
 ·cases h
end Go.Proofs.YtkbafjceglhjhaaGreatDoor.Er
namespace Go.Proofs.YtkbafjceglhjhaaGreatDoor.Ed
open Go.Sy Go.Shelf Go.Proofs Go.RowKit
def YC:Go.Shelf.Ren:=⟨λ| 156=>75 | 165=>116 | 166=>117 | 169=>118 | 240=>161 | 241=>162 | 276=>188 | 277=>189 | n=>n,λ| 31=>140 | 9=>9 | 3=>3 | 4=>4 | 0=>0 | 20=>20 | 72=>169 | 76=>173 | 70=>166 | 37=>167 | 75=>172 | 127=>201 | 164=>212 | 5=>5 | 80=>154 | n=>n,λ| n=>n⟩
theorem UU:Go.Proofs.Lays.n156 Tryz.prog YC:={
 mixed:=by kernel_rfl
 f156:=Tryz.func75.trans (congrArg some (by kernel_rfl))
 f165:=Tryz.func116.trans (congrArg some (by kernel_rfl))
 f166:=Tryz.func117.trans (congrArg some (by kernel_rfl))
 f169:=Tryz.func118.trans (congrArg some (by kernel_rfl))
 f240:=Tryz.func161.trans (congrArg some (by kernel_rfl))
 f241:=Tryz.func162.trans (congrArg some (by kernel_rfl))
 f276:=Tryz.func188.trans (congrArg some (by kernel_rfl))
 f277:=Tryz.func189.trans (congrArg some (by kernel_rfl))
 t0:=Tryz.underlying0
 a0:=Tryz.isAgg0
 z0:=Tryz.sizeOf0
 v0:=Tryz.zeroValue0
 t3:=Tryz.underlying3
 a3:=Tryz.isAgg3
 z3:=Tryz.sizeOf3
 v3:=Tryz.zeroValue3
 t4:=Tryz.underlying4
 a4:=Tryz.isAgg4
 z4:=Tryz.sizeOf4
 v4:=Tryz.zeroValue4
 t9:=Tryz.underlying9
 a9:=Tryz.isAgg9
 z9:=Tryz.sizeOf9
 v9:=Tryz.zeroValue9
 t20:=Tryz.underlying20
 a20:=Tryz.isAgg20
 z20:=Tryz.sizeOf20
 v20:=Tryz.zeroValue20
 t31:=Tryz.underlying140
 a31:=Tryz.isAgg140
 z31:=Tryz.sizeOf140
 v31:=Tryz.zeroValue140
 t37:=Tryz.underlying167
 a37:=Tryz.isAgg167
 z37:=Tryz.sizeOf167
 v37:=Tryz.zeroValue167
 t70:=Tryz.underlying166
 a70:=Tryz.isAgg166
 z70:=Tryz.sizeOf166
 v70:=Tryz.zeroValue166
 t72:=Tryz.underlying169
 a72:=Tryz.isAgg169
 z72:=Tryz.sizeOf169
 v72:=Tryz.zeroValue169
 t75:=Tryz.underlying172
 a75:=Tryz.isAgg172
 z75:=Tryz.sizeOf172
 v75:=Tryz.zeroValue172
 t76:=Tryz.underlying173
 a76:=Tryz.isAgg173
 z76:=Tryz.sizeOf173
 v76:=Tryz.zeroValue173
 t127:=Tryz.underlying201
 a127:=Tryz.isAgg201
 z127:=Tryz.sizeOf201
 v127:=Tryz.zeroValue201
 t164:=Tryz.underlying212
 a164:=Tryz.isAgg212
 z164:=Tryz.sizeOf212
 v164:=Tryz.zeroValue212 }
theorem Rj:Builder.Extra Tryz.prog YC:={
 sizeBuilder:=by kernel_rfl
 liesBuilder:=by kernel_rfl
 t5:=Tryz.underlying5
 a5:=Tryz.isAgg5
 z5:=Tryz.sizeOf5
 v5:=Tryz.zeroValue5
 infoByte:=by kernel_rfl
 cellsByte:=by kernel_rfl
 sizeByte:=by kernel_rfl
 neB5:=by decide }
open Go.RowKit in
theorem strings_Join_none (a:Option Addr) (c:Nat) (sep:ByteArray) (w:World) :
  Calls Tryz.prog 75 #[.slice a 0 c,.string sep] w λe w'=>e = .returned (.string ⟨#[]⟩)∧w'=w:=Any.strings_Join_none UU Rj a c sep w
open Go.RowKit in
theorem strings_Join (bk o c:Nat) (xs:List ByteArray) (sep:ByteArray) (w:World) (hcells:∀ (j:Nat) x,xs[j]? = some x->w.cell? ⟨bk,o+j,none⟩=some (.string x)) (hbk:bk<w.heap.size) (hN:xs.length <= 140737488355328) (hcap:xs.length <= c) (hlen:(Lib.join (xs.map (·.data.toList)) sep.data.toList).length <= 140737488355328) :
  Calls Tryz.prog 75 #[.slice (some ⟨bk,o,none⟩) xs.length c,.string sep] w λe w'=>e = .returned (.string ⟨(Lib.join (xs.map (·.data.toList)) sep.data.toList).toArray⟩)∧Below w.heap.size w w':=Any.strings_Join UU Rj bk o c xs sep w hcells hbk hN hcap hlen
def okS (v:V):Bool:=match gS v with
 | some _=>true
 | none=>false
def edS (v:V):List UInt8:=match gS v with
 | some e=>e
 | none=>[]
theorem Ac1 {v:V} (h:okS v=true):v = .str (edS v):=by
 unfold okS at h;unfold edS;split at h
 ·rename_i e he
  exact YS he
 ·cases h
def Aob (n:Nat) (f:Nat->List UInt8):V:=.sl 1 n λi=>.str (f i)
def apS {α:Type} (v:V) (F:Nat->(Nat->List UInt8)->T α):T α :=
 match Aa5 v with
 | some (n,g)=>.br (AV n λi=>okS (g i)) (F n λi=>edS (g i)) .fail
 | none=>.fail
theorem apS_some {α:Type} {v:V} {F:Nat->(Nat->List UInt8)->T α} {r:α} (h:(apS v F).sem=some r) :
  ∃ n f,(∀ (S:Nat->Prop) (w:World) (c:Value),VR S w v noK c->VR S w (Aob n f) noK c)∧(F n f).sem=some r:=by
 unfold apS at h;split at h
 ·rename_i n g hg
  obtain ⟨h1,h2⟩:=Ac h;have h1:=A8.1 h1;refine ⟨n,_,λS w c hv=>?_,h2⟩;unfold Aa5 at hg;split at hg
  ·rename_i s n' g'
   split at hg
   ·rename_i hs
    simp only [Option.some.injEq,Prod.mk.injEq] at hg;obtain ⟨rfl,rfl⟩:=hg;have hs:s=1:=Nat.eq_of_beq_eq_true hs;subst hs;obtain ⟨a,cap,e,hc,hb⟩:=hv;refine ⟨a,cap,e,hc,hb.imp id ?_⟩
    rintro ⟨b,o,ea,hel⟩
    refine ⟨b,o,ea,λi hi=>?_⟩;have:=hel i hi;rw [Ac1 (h1 i hi)] at this;exact this
   ·cases hg
  ·cases hg
 ·cases h
def Ri (n:Nat) (g:Nat->List UInt8) (sep:List UInt8):List UInt8:=Lib.join ((List.range n).map g) sep
def Ph (n:Nat) (g:Nat->List UInt8) (sep:List UInt8):Bool:=decide (n <= 140737488355328) && decide ((Ri n g sep).length <= 140737488355328)
def YB:List V->A5
 | [v,.str sep]=>apS v λn g=>.br (Ph n g sep) (out (.str (Ri n g sep))) .fail
 | _=>.fail
theorem Aa8 {S:Nat->Prop} {w w':World} (h:Below w.heap.size w w'):Ext noK S [] w noK S [] w' :=
 Ext.ofNil h.os h.tape h.output h.size (λb hb _=>h.block b hb) (λi b hb=>absurd hb (D8 _ _ _)) (λ_ hb=>.inl hb) (λ_ hb=>hb) λ_ _ hb=>by simp at hb
theorem Apo:Ap Tryz.prog Gl 75 YB:=by
 refine ⟨⟨Tryz.f75,Tryz.func75,by decide,by kernel_rfl⟩,λvs cs S w v h' hS hE hv he=>?_⟩;unfold YB at he;split at he
 ·rename_i u sep
  obtain ⟨n,g,ha,h1⟩:=apS_some he;obtain ⟨hk,hq⟩:=Ac h1;have:=Ab hq;simp only [Prod.mk.injEq] at this;obtain ⟨rfl,rfl⟩:=this;simp only [Ph,Bool.and_eq_true,decide_eq_true_eq] at hk;obtain ⟨hn,hlen⟩:=hk;obtain ⟨c,l,rfl,q1,c2,l2,rfl,q2,q3⟩:=hv;have q3:l2=[]:=q3;subst q3;have q2:c2 = .string ⟨sep.toArray⟩:=q2;subst q2;obtain ⟨a,cap,rfl,hcap,hel⟩:=ha S w c q1;refine ⟨λi b hb=>by simp at hb,?_⟩;cases n with
  | zero =>
   refine (strings_Join_none a cap ⟨sep.toArray⟩ w).mono ?_
   rintro e w' ⟨he,rfl⟩
   exact ⟨_,noK,S,he,Good.empty hS,rfl,Ext.refl _ _ _ _⟩
  | succ m =>
   rcases hel with h0 | ⟨b,o,rfl,hel⟩
   ·cases h0
   ·have hl:((List.range (m+1)).map λi=>(⟨(g i).toArray⟩:ByteArray)).length=m+1:=by simp
    have hd:((List.range (m+1)).map λi=>(⟨(g i).toArray⟩:ByteArray)).map (·.data.toList)=(List.range (m+1)).map g:=by
     rw [List.map_map];apply List.map_congr_left;intro i _;simp
    have hcell:∀ j,j<m+1->S b∧w.cell? ⟨b,o+j,none⟩=some (.string ⟨(g j).toArray⟩):=λj hj=>by
     obtain ⟨ci,r1,_,_,r4⟩:=hel j hj;have r1:ci = .string ⟨(g j).toArray⟩:=r1;subst r1;have:=r4 0 (.string ⟨(g j).toArray⟩) rfl;rw [Nat.mul_one,Nat.add_zero] at this;exact this
    have hJ:=strings_Join b o cap ((List.range (m+1)).map λi=>(⟨(g i).toArray⟩:ByteArray)) ⟨sep.toArray⟩ w (λj x hx=>by
     rw [List.getElem?_map] at hx;rcases Nat.lt_or_ge j (m+1) with hj | hj
     ·rw [List.getElem?_range hj] at hx
      simp at hx;rw [<- hx];exact (hcell j hj).2
     ·rw [List.getElem?_eq_none (by simpa using hj)] at hx
      cases hx) (hS b (hcell 0 (Nat.succ_pos m)).1) (by rw [hl]; exact hn) (by rw [hl]; exact hcap) (by rw [hd]; simpa [Ri] using hlen)
    rw [hl,hd] at hJ;refine hJ.mono ?_
    rintro e w' ⟨he,hb⟩
    refine ⟨_,noK,S,he,Good.empty (λk hk=>Nat.lt_of_lt_of_le (hS k hk) hb.size),?_,Aa8 hb⟩;show _=_;simp [Ri]
 ·cases he
end Go.Proofs.YtkbafjceglhjhaaGreatDoor.Ed
namespace Go.Proofs.YtkbafjceglhjhaaGreatDoor.Er
open Go.Sy Go Go.Proofs.YtkbafjceglhjhaaGreatDoor.Ed Go.Proofs.YtkbafjceglhjhaaGreatDoor.Sh
set_option maxRecDepth 100000
set_option maxHeartbeats 1000000
noncomputable def AnO:A7:=(9,shT V9)::(11,shT rgC)::(33,shT Qi)::(34,shT O1)::(60,K2)::(48,Hv)::(74,BX JZ)::(75,YB)::(106,NZ OA)::(68,Sh.ofT)::[]
theorem Afx:Ao Tryz.prog Gl AnO:=.cons p9 <| .cons p11 <| .cons p33 <| .cons p34 <| .cons p25 <| .cons p65 <| .cons p26 <| .cons Apo <| .cons p22 <| .cons p15 .nil
noncomputable def lW:List (Nat×Func):=[(26,Tryz.f26),(13,Tryz.f13),(47,Tryz.f47),(46,Tryz.f46),(69,Tryz.f69),(70,Tryz.f70),(71,Tryz.f71),(112,Tryz.f112),(113,Tryz.f113),(158,Tryz.f158),(159,Tryz.f159),(186,Tryz.f186),(187,Tryz.f187),(39,Tryz.f39),(45,Tryz.f45),(49,Tryz.f49),(67,Tryz.f67),(105,Tryz.f105)]
theorem Aqb:AllBody Tryz.prog lW:=.cons Tryz.func26 (by kernel_rfl) <| .cons Tryz.func13 (by kernel_rfl) <| .cons Tryz.func47 (by kernel_rfl) <| .cons Tryz.func46 (by kernel_rfl) <| .cons Tryz.func69 (by kernel_rfl) <| .cons Tryz.func70 (by kernel_rfl) <| .cons Tryz.func71 (by kernel_rfl) <| .cons Tryz.func112 (by kernel_rfl) <| .cons Tryz.func113 (by kernel_rfl) <| .cons Tryz.func158 (by kernel_rfl) <| .cons Tryz.func159 (by kernel_rfl) <| .cons Tryz.func186 (by kernel_rfl) <| .cons Tryz.func187 (by kernel_rfl) <| .cons Tryz.func39 (by kernel_rfl) <| .cons Tryz.func45 (by kernel_rfl) <| .cons Tryz.func49 (by kernel_rfl) <| .cons Tryz.func67 (by kernel_rfl) <| .cons Tryz.func105 (by kernel_rfl) .nil
noncomputable def tbW:A7:=Jk tab Gl AnO lW
theorem Abt:Ao Tryz.prog Gl tbW:=MH A2 mixed Afx Aqb
theorem AsY:(A0 (Aj tab (cxC Gl tbW) Tryz.f25 [] [])).sem=some (bV true,[]):=by kernel_rfl
theorem p18:Ap Tryz.prog Gl 25 Acw:=by
 refine Ah A2 mixed Tryz.func25 (by kernel_rfl) (by kernel_rfl) λvs v h' h=>?_;unfold Acw at h;split at h
 ·have:=Ab h
  simp only [Prod.mk.injEq] at this;obtain ⟨rfl,rfl⟩:=this;exact ⟨[],cxC Gl tbW,[],Ba.refl _,rfl,(Jg Abt).1,(Jg Abt).2,AsY,Am.refl _⟩
 ·cases h
end Go.Proofs.YtkbafjceglhjhaaGreatDoor.Er
