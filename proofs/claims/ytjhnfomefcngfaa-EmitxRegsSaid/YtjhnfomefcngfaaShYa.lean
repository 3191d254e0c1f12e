/-
  Layer 9: may an instruction be (functions 48, 78, 79, 80, 108): where it is a fence, a store of a small number, a load into a register, at a location of one letter. No conditions.
-/
import Derived.Test.YtjhnfomefcngfaaShH
namespace Go.Proofs.Ytjhnfomefcngfaa.Sh
open Go.Sy Ed
set_option maxHeartbeats 1000000
set_option maxRecDepth 4000
def OT (l:List UInt8):Bool:=Agu.any λc=>l == [c]
def Uy (x:Int):Bool:=bif ile (-2147483648) x then ile x 2147483647 else false
def Um (x:Int):Bool:=bif ile 0 x then ilt x 15 else false
def Fk (op d a2 a3 imm:Int) (l m:List UInt8) (a7:Int):Bool :=
 (ieq a2 0 && (ieq a3 0 && (m.isEmpty && ieq a7 0))) && ((ieq op 1 && (ieq d 0 && (Uy imm && OT l))) || ((ieq op 3 && (ieq imm 0 && (Um d && OT l))) || (ieq op 5 && (ieq d 0 && (ieq imm 0 && l.isEmpty)))))
def Agv:List V->T (V × List Blk)
 | [.val (.int .u8 x)]=>.br (Af (ile 97 x) (ile x 122)) (.leaf (bV true,[])) .fail
 | _=>.fail
def YU:List V->T (V × List Blk)
 | [.str l]=>.br (OT l) (.leaf (bV true,[])) .fail
 | _=>.fail
def Agn:List V->T (V × List Blk)
 | [.val (.int .i64 x)]=>.leaf (bV (Uy x),[])
 | _=>.fail
def Afc:List V->T (V × List Blk)
 | [.val (.int .i64 x)]=>.leaf (bV (Um x),[])
 | _=>.fail
def Ag6:List V->T (V × List Blk)
 | [.agg [.val (.int .i64 a),.val (.int .i64 b),.val (.int .i64 c),.val (.int .i64 d),.val (.int .i64 e),.str l,.str m,.val (.int .i64 f)]]=>.br (Fk a b c d e l m f) (.leaf (iV 0,[])) .fail
 | _=>.fail
noncomputable def AhL:List (Nat × (List V->T (V × List Blk))):=[(108,Agv)]
noncomputable def tb48:List (Nat × (List V->T (V × List Blk))):=[(78,YU),(79,Agn),(80,Afc)]
section
variable (L:LT) (x:Int)
include L x
theorem AjR (h0:ile 0 x = true):(Az (Ak tab ⟨Ap tb0,L,Gl⟩ Try.f80 [iV x] [])).sem = some ((bV (ilt x 15)),[]):=Aa [true,true,true] [ile 0 x,ile 0 x,ile 0 x] (by kernel_rfl) (by simp only [h0] <;> rfl)
theorem AjS (h0:ile 0 x = false):(Az (Ak tab ⟨Ap tb0,L,Gl⟩ Try.f80 [iV x] [])).sem = some ((bV false),[]):=Aa [false,false,false] [ile 0 x,ile 0 x,ile 0 x] (by kernel_rfl) (by simp only [h0] <;> rfl)
theorem AjT (h0:ile (-2147483648) x = true):(Az (Ak tab ⟨Ap tb0,L,Gl⟩ Try.f79 [iV x] [])).sem = some ((bV (ile x 2147483647)),[]):=Aa [true,true,true] [ile (-2147483648) x,ile (-2147483648) x,ile (-2147483648) x] (by kernel_rfl) (by simp only [h0] <;> rfl)
theorem AjU (h0:ile (-2147483648) x = false):(Az (Ak tab ⟨Ap tb0,L,Gl⟩ Try.f79 [iV x] [])).sem = some ((bV false),[]):=Aa [false,false,false] [ile (-2147483648) x,ile (-2147483648) x,ile (-2147483648) x] (by kernel_rfl) (by simp only [h0] <;> rfl)
theorem Akx (h14:ile 97 x = true) (h0:ile x 122 = true):(Az (Ak tab ⟨Ap tb0,L,Gl⟩ Try.f108 [.val (.int .u8 x)] [])).sem = some ((bV true),[]):=Aa (bbK 8 255) ((λc0 c1=>[c0,c0,c0,c1,c1,c1,c1,c1]) (ile 97 x) (ile x 122)) (by kernel_rfl) (by simp only [h14,h0] <;> rfl)
end
section
variable (L:LT) (d:Int) (l:List UInt8)
include L d l
theorem Akd (h17:OT l = true) (h0:Uy d = true) (h18:seq l l = true) (h19:seq [] [] = true):(Az (Ak tab ⟨Ap tb48,L,Gl⟩ Try.f48 [.agg [iV 1,iV 0,iV 0,iV 0,iV d,.str l,.str [],iV 0]] [])).sem = some ((iV 0),[]):=Aa (bbK 11 63) ((λc0 c1=>[ieq 1 1,OT l,c0,c0,c0,c0,c1,c1,c1,c1,An (Af (ieq 1 1) (Af (ieq 0 0) (Af (ieq 0 0) (Af (ieq 0 0) (Af (ieq d d) (Af (seq l l) (Af (seq [] []) (Af (ieq 0 0) true))))))))]) (true) (An (Uy d))) (by kernel_rfl) (by simp only [*,Bv] <;> rfl)
theorem Ake (h0:Um d = true) (h17:OT l = true) (h18:seq l l = true) (h19:seq [] [] = true):(Az (Ak tab ⟨Ap tb48,L,Gl⟩ Try.f48 [.agg [iV 3,iV d,iV 0,iV 0,iV 0,.str l,.str [],iV 0]] [])).sem = some ((iV 0),[]):=Aa (bbK 13 252) ((λc0 c1=>[ieq 3 1,ieq 3 2,ieq 3 3,c0,c0,c0,OT l,c0,c1,c1,c1,c1,An (Af (ieq 3 3) (Af (ieq d d) (Af (ieq 0 0) (Af (ieq 0 0) (Af (ieq 0 0) (Af (seq l l) (Af (seq [] []) (Af (ieq 0 0) true))))))))]) (Um d) (An true)) (by kernel_rfl) (by simp only [*,Bv] <;> rfl)
end
theorem Akf (L:LT) (h16:seq [] [] = true):(Az (Ak tab ⟨Ap tb48,L,Gl⟩ Try.f48 [.agg [iV 5,iV 0,iV 0,iV 0,iV 0,.str [],.str [],iV 0]] [])).sem = some ((iV 0),[]):=Aa (bbK 10 16) [ieq 5 1,ieq 5 2,ieq 5 3,ieq 5 4,ieq 5 5,An true,An true,An true,An true,An (Af (ieq 5 5) (Af (ieq 0 0) (Af (ieq 0 0) (Af (ieq 0 0) (Af (ieq 0 0) (Af (seq [] []) (Af (seq [] []) (Af (ieq 0 0) true))))))))] (by kernel_rfl) (by simp only [h16,Bv] <;> rfl)
theorem p80:A6 Try.prog Gl 80 Afc:=by
 refine A6.congr (AK AO AP Try.func80 (by kernel_rfl) (by kernel_rfl) (Γ:=AS Gl tb0 []) (AQ Dd [])) λvs r h=>?_
 unfold Afc at h
 split at h
 ·rename_i x
  rw [Ac h]
  unfold Um
  cases hx:ile 0 x with
  | true=>exact AjR _ x hx
  | false=>exact AjS _ x hx
 ·cases h
theorem p79:A6 Try.prog Gl 79 Agn:=by
 refine A6.congr (AK AO AP Try.func79 (by kernel_rfl) (by kernel_rfl) (Γ:=AS Gl tb0 []) (AQ Dd [])) λvs r h=>?_
 unfold Agn at h
 split at h
 ·rename_i x
  rw [Ac h]
  unfold Uy
  cases hx:ile (-2147483648) x with
  | true=>exact AjT _ x hx
  | false=>exact AjU _ x hx
 ·cases h
theorem p108:A6 Try.prog Gl 108 Agv:=by
 refine A6.congr (AK AO AP Try.func108 (by kernel_rfl) (by kernel_rfl) (Γ:=AS Gl tb0 []) (AQ Dd [])) λvs r h=>?_
 unfold Agv at h
 split at h
 ·rename_i x
  obtain ⟨hb,h⟩:=Ag h
  obtain ⟨h1,h2⟩:=B3 hb
  rw [Ac h]
  exact Akx _ x h1 h2
 ·cases h
theorem AaJ:AB Try.prog Gl AhL:=.cons p108 .nil
theorem p78:A6 Try.prog Gl 78 YU:=by
 refine A6.congr (AK AO AP Try.func78 (by kernel_rfl) (by kernel_rfl) (Γ:=AS Gl AhL [(0,⟨[],0,[],0,3⟩)]) (AQ AaJ [(0,⟨[],0,[],0,3⟩)])) λvs r h=>?_
 unfold YU at h
 split at h
 ·rename_i l
  obtain ⟨hb,h⟩:=Ag h
  rw [Ac h]
  unfold OT at hb
  rw [List.any_eq_true] at hb
  obtain ⟨c,hc,hl⟩:=hb
  rw [eq_of_beq hl]
  clear hl h
  unfold Agu at hc
  simp only [List.mem_cons,List.not_mem_nil,or_false] at hc
  rcases hc with rfl | rfl | rfl | rfl | rfl | rfl | rfl | rfl | rfl | rfl | rfl | rfl | rfl | rfl | rfl | rfl <;> kernel_rfl
 ·cases h
theorem tb48_ok:AB Try.prog Gl tb48:=.cons p78 <| .cons p79 <| .cons p80 .nil
theorem AkA:A6 Try.prog Gl 48 Ag6:=by
 refine A6.congr (AK AO AP Try.func48 (by kernel_rfl) (by kernel_rfl) (Γ:=AS Gl tb48 []) (AQ tb48_ok [])) λvs r h=>?_
 unfold Ag6 at h
 split at h
 ·rename_i a b c d e l m f
  obtain ⟨hb,h⟩:=Ag h
  rw [Ac h]
  unfold Fk at hb
  simp only [Bool.and_eq_true,Bool.or_eq_true,List.isEmpty_iff] at hb
  obtain ⟨⟨h1,h2,rfl,h4⟩,hb⟩:=hb
  rw [BF h1,BF h2,BF h4]
  have hs:∀ l:List UInt8,seq l l = true:=λl=>by unfold seq; simp
  rcases hb with ⟨q1,q2,q3,q4⟩ | ⟨q1,q2,q3,q4⟩ | ⟨q1,q2,q3,rfl⟩
  ·rw [BF q1,BF q2]
   exact Akd _ e l q4 q3 (hs _) (hs _)
  ·rw [BF q1,BF q2]
   exact Ake _ b l q3 q4 (hs _) (hs _)
  ·rw [BF q1,BF q2,BF q3]
   exact Akf _ (hs _)
 ·cases h
end Go.Proofs.Ytjhnfomefcngfaa.Sh
