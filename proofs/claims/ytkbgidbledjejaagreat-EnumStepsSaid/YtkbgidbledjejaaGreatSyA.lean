/-
  A symbolic big-step evaluator for the model's code, with no program in sight: values, decision trees, states, the evaluator. Its soundness is proved in the texts behind this one. No conditions.
-/
import Derived.Calls
import Derived.Laws.Entries
import Derived.OrdersHeld
namespace Go.Sy
def sel {α:Type} (b:Bool) (x y:α):α:=bif b then x else y
def wr (k:IntKind) (x:Int):Int:=k.wrap x
def Am (a b:Int):Int:=a+b
def Ax (a b:Int):Int:=a-b
def Bp (a b:Int):Int:=a * b
def PY (a b:Int):Int:=a.tdiv b
def Aw (a b:Int):Int:=a.tmod b
def Amo (k:IntKind) (a b:Int):Int:=a * 2 ^ (min b.toNat k.bits)
def Nl (k:IntKind) (a b:Int):Int:=a.fdiv (2 ^ (min b.toNat k.bits))
def GY (op:BinOp) (k:IntKind) (a b:Int):Int:=Go.bits op k a b
def ieq (a b:Int):Bool:=a == b
def ilt (a b:Int):Bool:=decide (a<b)
def ile (a b:Int):Bool:=decide (a <= b)
def toN (a:Int):Nat:=a.toNat
def Av (a b:Bool):Bool:=a && b
def bor (a b:Bool):Bool:=a || b
def AI (a:Bool):Bool:=!a
def Kr (a b:Bool):Bool:=a == b
def seq (a b:List UInt8):Bool:=a == b
def slt (a b:List UInt8):Bool:=Op.bytesLess a b
def Anw (a b:List UInt8):List UInt8:=a++b
def Kw (n:Nat) (l:List UInt8):List UInt8:=l.drop n
def Ku (n:Nat) (l:List UInt8):List UInt8:=l.take n
def CM (l:List UInt8):Nat:=l.length
def Of (l:List UInt8) (n:Nat):Int:=((l.getD n 0).toNat:Int)
def Yh (a b:List UInt8):Bool:=decide (a.length+b.length <= 9223372036854775807)
def nlt (a b:Nat):Bool:=decide (a<b)
def Fy (a b:Nat):Bool:=Nat.beq a b
def Rk (a b:Nat):Bool:=Nat.blt a b
def Cd (a b:Nat):Nat:=a+b
def FC (a b:Nat):Nat:=a-b
def CJ (n m bytes:Nat):Bool:=decide ((n+m) * bytes <= 140737488355328)
def IM (x:Int):Bool:=decide (-9223372036854775808 <= x) && decide (x <= 9223372036854775807)
def G2 (bytes:Nat) (l c:Int):Bool:=decide (0 <= l) && (decide (l <= c) && (decide ((bytes:Int) * c <= 281474976710656) && decide (c <= 9223372036854775807)))
inductive V where
 | val (v:Value)
 | str (l:List UInt8)
 | agg (cs:List V)
 | tup (vs:List V)
 | fn (f:FuncId) (caps:List V)
 | nilS
 | sl (size n:Nat) (get:Nat->V)
 | slr (size n m:Nat) (get:Nat->V)
 | pp (v:V)
 | ptr (id off:Nat)
 | ref (id:Nat)
 | ept (id size i off:Nat)
 | rct (id k:Nat)
 | jref (id:Nat)
 | jept (id size i off:Nat)
 | mref (id i:Nat)
 | mept (id i size k off:Nat)
 | mmap (id i:Nat)
 | anym
 | und
instance:Inhabited V:=⟨.und⟩
structure Mp where
 off:Nat
 t:TypeId
 live:Nat->Bool
 len:Nat->Nat
 hs:Nat->Int->Bool
 get:Nat->Int->Int
structure Jag where
 e:TypeId
 size:Nat
 n:Nat
 get:Nat->V
 off:Nat
 e':TypeId
 s':Nat
 live:Nat->Bool
 len:Nat->Nat
 mem:Nat->Nat->V
 mp:Option Mp
inductive Key where
 | i (x:Int)
 | s (l:List UInt8)
def keq:Key->Key->Bool
 | .i a,.i b=>ieq a b
 | .s a,.s b=>seq a b
 | _,_=>false
def Aao:Bool->V->Option Key
 | false,.val (.int .i64 k)=>some (.i k)
 | true,.str l=>some (.s l)
 | _,_=>none
def Xq:Key->Bool
 | .i x=>IM x
 | .s l=>Yh l []
inductive Ex where
 | nm
 | ex (id:Nat)
 | rt
structure RngCode where
 ps:Array Tmp
 a:Code
 b:Code
inductive Rs where
 | ready
 | busy
 | done (e:Ex)
inductive Blk where
 | cells (cs:List V)
 | row (e:TypeId) (size n:Nat) (get:Nat->V)
 | imap (t:TypeId) (n:Nat) (get:Int->Int)
 | gmap (t:TypeId) (ks:List (Key×V)) (hs:Key->Bool) (get:Key->V)
 | xrow (lk:Bool) (e:TypeId) (size n:Nat) (get:Nat->V)
 | jag (j:Jag)
 | saved (vs:List V)
 | rng (cd:RngCode) (ts:List V) (q:Rs)
 | dead
structure St where
 t:List V
 h:List Blk
inductive T (α:Type) where
 | leaf (a:α)
 | br (b:Bool) (x y:T α)
 | fail
 | ask (o:Option (Ex×St)) (k:Ex×St->T α)
def T.bind {α β:Type} (t:T α) (f:α->T β):T β :=
 match t with
 | .leaf a=>f a
 | .br b x y=>.br b (x.bind f) (y.bind f)
 | .fail=>.fail
 | .ask o k=>.ask o λr=>(k r).bind f
def T.sem {α:Type}:T α->Option α
 | .leaf a=>some a
 | .br b x y=>sel b x.sem y.sem
 | .fail=>none
 | .ask o k=>match o with
  | some r=>(k r).sem
  | none=>none
def T.ofOpt {α:Type}:Option α->T α
 | some a=>.leaf a
 | none=>.fail
def A7:V:=.val (.tuple #[])
def iV (n:Int):V:=.val (.int .i64 n)
def bV (b:Bool):V:=.val (.bool b)
def NU:Value->V
 | .string s=>.str s.data.toList
 | .slice none 0 0=>.nilS
 | .agg _=>.und
 | .tuple _=>.und
 | v=>.val v
def ofValue:Value->V
 | .agg cs=>.agg (cs.toList.map NU)
 | v=>NU v
def Jm:V->Bool
 | .agg _ | .val (.agg _) | .val (.tuple _) | .tup _ | .und=>false
 | _=>true
def Ta:List V->Bool
 | []=>true
 | v::l=>match Jm v with
  | true=>Ta l
  | false=>false
def V.cells:V->Option (List V)
 | .agg cs=>match Ta cs with
  | true=>some cs
  | false=>none
 | .val (.agg _) | .val (.tuple _) | .tup _ | .und=>none
 | v=>some [v]
inductive K where
 | bool
 | int (k:IntKind)
 | str
 | sl (e:Nat)
 | arr (n e:Nat)
 | st (fs:List (Nat×Nat))
 | imap (e:Nat)
 | gmap (s:Bool) (e:Nat)
 | other
structure Ty where
 k:K
 size:Nat
 bytes:Nat
 zero:V
 plain:Bool
def Tn (P:Program):Nat->TypeId->Bool
 | 0,_=>false
 | d+1,t=>match P.underlying t with
  | some (.array _ e)=>Tn P d e
  | some (.struct fs)=>fs.toList.all λf=>f.name != "_" && Tn P d f.type
  | some (.int _) | some .bool | some .string=>true
  | _=>false
def Hr (P:Program) (t:TypeId):Bool :=
 match P.underlying t with
 | some (.array _ e)=>Tn P 3 e && !P.eqGuardType P.depth t
 | some (.struct fs)=>(fs.toList.all λf=>f.name != "_" && Tn P 3 f.type) && !P.stoodInHeld t && !P.eqGuardType P.depth t
 | _=>false
def kOf (P:Program):TypeDesc->K
 | .bool=>.bool
 | .int k=>.int k
 | .string=>.str
 | .slice e=>.sl e
 | .array n e=>.arr n e
 | .struct fs=>.st (fs.toList.map λf=>(f.offset,f.type))
 | .map k e=>match P.underlying k,P.underlying e with
  | some (.int .i64),some (.int .i64)=>.imap e
  | some (.int .i64),_=>.gmap false e
  | some .string,_=>.gmap true e
  | _,_=>.other
 | _=>.other
def Abn (P:Program) (t:TypeId):Option Ty :=
 match P.info? t,P.underlying t with
 | some i,some d=>some { k:=kOf P d,size:=i.size,bytes:=i.bytes,zero:=match i.zero with | some z=>ofValue z | none=>.und,plain:=Hr P t }
 | _,_=>none
section
variable (τ:List Ty)
def TL:K->Bool
 | .st _ | .arr _ _=>true
 | _=>false
def nth (l:List V) (n:Nat):V :=
 match l,n with
 | [],_=>.und
 | v::_,0=>v
 | _::l,n+1=>nth l n
def HZ (t:TypeId) (cs:List V) (off:Nat):Option V :=
 match τ[t]? with
 | some ty =>
  match TL ty.k with
  | true=>match Nat.ble (Nat.add off ty.size) cs.length with
   | true=>some (.agg ((cs.drop off).take ty.size))
   | false=>none
  | false=>cs[off]?
 | none=>none
def EM (t:TypeId) (v:V) (off:Nat):Option V :=
 match v.cells with
 | some cs=>HZ τ t cs off
 | none=>none
def CY (cs:List V) (off:Nat) (new:List V):List V:=cs.take off++(new++cs.drop (Nat.add off new.length))
def Sv (place:Nat->Option (Nat×Nat)) (cells:List V):List (Nat×V)->Option (List V)
 | []=>some cells
 | (i,v)::rest =>
   match place i,v.cells with
   | some (off,size),some cs =>
    match Nat.beq cs.length size,Nat.ble (Nat.add off size) cells.length with
    | true,true=>Sv place (CY cells off cs) rest
    | _,_=>none
   | _,_=>none
def LK (fs:List (Nat×Nat)):Option (List (Nat×Nat)) :=
 match fs with
 | []=>some []
 | f::fs=>match τ[f.2]?,LK fs with
  | some ty,some l=>some ((f.1,ty.size)::l)
  | _,_=>none
def XR (t:TypeId) (parts:List (Nat×V)):Option V :=
 match τ[t]? with
 | some ty =>
  match ty.zero,ty.k with
  | .agg zero,.st fs =>
   match LK τ fs with
   | some places=>match Sv (λi=>places[i]?) zero parts with
    | some cs=>some (.agg cs)
    | none=>none
   | none=>none
  | .agg zero,.arr _ e =>
   match τ[e]? with
   | some te=>match Sv (λi=>some (Nat.mul i te.size,te.size)) zero parts with
    | some cs=>some (.agg cs)
    | none=>none
   | none=>none
  | _,_=>none
 | none=>none
def MX {α:Type} (i:Int) (f:Nat->T α):Nat->Nat->T α
 | 0,_=>.fail
 | n+1,k=>.br (ieq i (Int.ofNat k)) (f k) (MX i f n (Nat.succ k))
def Nm:Operand->Bool
 | .const _=>true
 | _=>false
def Xt:IntKind->IntKind->Bool
 | .i8,.i8 | .i16,.i16 | .i32,.i32 | .i64,.i64 | .u8,.u8 | .u16,.u16 | .u32,.u32 | .u64,.u64=>true
 | _,_=>false
def Adm:Int->Bool
 | .ofNat 0=>true
 | _=>false
def J0 (i:Int) (n:Nat):Bool :=
 match i with
 | .ofNat k=>Nat.blt k n
 | _=>false
def X1:K->V->V->Option Bool
 | .int _,.val (.int k a),.val (.int k' b)=>match Xt k k' with
  | true=>some (ieq a b)
  | false=>none
 | .bool,.val (.bool a),.val (.bool b)=>some (Kr a b)
 | .str,.str a,.str b=>some (seq a b)
 | _,_,_=>none
def AdC (f:TypeId->V->V->Option Bool):List (Nat×Nat)->List V->List V->Option Bool
 | [],_,_=>some true
 | (off,t)::fs,as0,bs=>match HZ τ t as0 off,HZ τ t bs off with
   | some u,some v=>match f t u v,AdC f fs as0 bs with
    | some x,some y=>some (Av x y)
    | _,_=>none
   | _,_=>none
def VS (f:V->V->Option Bool) (e:TypeId) (size:Nat) (as0 bs:List V):Nat->Nat->Option Bool
 | 0,_=>some true
 | m+1,i=>match HZ τ e as0 (Nat.mul i size),HZ τ e bs (Nat.mul i size) with
  | some u,some v=>match f u v,VS f e size as0 bs m (Nat.succ i) with
   | some x,some y=>some (Av x y)
   | _,_=>none
  | _,_=>none
def eqV:Nat->TypeId->V->V->Option Bool
 | 0,_,_,_=>none
 | d+1,t,x,y=>match τ[t]? with
  | some ty=>match ty.k,x,y with
   | .arr n e,.agg as0,.agg bs=>match τ[e]? with
    | some te=>VS τ (eqV d e) e te.size as0 bs n 0
    | none=>none
   | .st fs,.agg as0,.agg bs=>match ty.plain with
    | true=>AdC τ (eqV d) fs as0 bs
    | false=>none
   | k,x,y=>X1 k x y
  | none=>none
def AjL (op:BinOp) (t:TypeId) (lit:Bool):V->V->T V
 | .val (.int k a),.val (.int k' b) =>
  match op with
  | .shl=>.br (ile 0 b) (.leaf (.val (.int k (wr k (Amo k a b))))) .fail
  | .shr=>.br (ile 0 b) (.leaf (.val (.int k (Nl k a b)))) .fail
  | op =>
   match Xt k k' with
   | false=>.fail
   | true =>
   match op with
   | .add=>.leaf (.val (.int k (wr k (Am a b))))
   | .sub=>.leaf (.val (.int k (wr k (Ax a b))))
   | .mul=>.leaf (.val (.int k (wr k (Bp a b))))
   | .quo=>match lit with
    | true=>match Adm b with
     | true=>.fail
     | false=>.leaf (.val (.int k (wr k (PY a b))))
    | false=>.br (ieq b 0) .fail (.leaf (.val (.int k (wr k (PY a b)))))
   | .rem=>match lit with
    | true=>match Adm b with
     | true=>.fail
     | false=>.leaf (.val (.int k (Aw a b)))
    | false=>.br (ieq b 0) .fail (.leaf (.val (.int k (Aw a b))))
   | .and=>.leaf (.val (.int k (GY .and k a b)))
   | .or=>.leaf (.val (.int k (GY .or k a b)))
   | .xor=>.leaf (.val (.int k (GY .xor k a b)))
   | .andNot=>.leaf (.val (.int k (GY .andNot k a b)))
   | .eql=>.leaf (bV (ieq a b))
   | .neq=>.leaf (bV (AI (ieq a b)))
   | .lss=>.leaf (bV (ilt a b))
   | .leq=>.leaf (bV (ile a b))
   | .gtr=>.leaf (bV (ilt b a))
   | .geq=>.leaf (bV (ile b a))
   | _=>.fail
 | .val (.bool a),.val (.bool b) =>
  match τ[t]? with
  | some ty=>match op,ty.k with
   | .eql,.bool=>.leaf (bV (Kr a b))
   | .neq,.bool=>.leaf (bV (AI (Kr a b)))
   | _,_=>.fail
  | none=>.fail
 | .str a,.str b =>
  match op with
  | .add=>.br (Yh a b) (.leaf (.str (Anw a b))) .fail
  | .eql=>.leaf (bV (seq a b))
  | .neq=>.leaf (bV (AI (seq a b)))
  | .lss=>.leaf (bV (slt a b))
  | .leq=>.leaf (bV (bor (slt a b) (seq a b)))
  | .gtr=>.leaf (bV (AI (bor (slt a b) (seq a b))))
  | .geq=>.leaf (bV (AI (slt a b)))
  | _=>.fail
 | .agg a,.agg b =>
  match τ[t]? with
  | some ty=>match ty.plain with
   | true=>match op,eqV τ 5 t (.agg a) (.agg b) with
    | .eql,some x=>.leaf (bV x)
    | .neq,some x=>.leaf (bV (AI x))
    | _,_=>.fail
   | false=>.fail
  | none=>.fail
 | _,_=>.fail
def unV (op:UnOp):V->T V
 | .val (.int k a) =>
  match op with
  | .neg=>.leaf (.val (.int k (wr k (Ax 0 a))))
  | _=>.fail
 | .val (.bool b) =>
  match op with
  | .not=>.leaf (bV (AI b))
  | _=>.fail
 | _=>.fail
def AdR (src dst:TypeId):V->T V
 | .val (.int _ a) =>
  match τ[src]?,τ[dst]? with
  | some _,some ty=>match ty.k with
   | .int k=>.leaf (.val (.int k (wr k a)))
   | _=>.fail
  | _,_=>.fail
 | .str l =>
  match τ[src]?,τ[dst]? with
  | some _,some ty=>match ty.k with
   | .str=>.leaf (.str l)
   | _=>.fail
  | _,_=>.fail
 | _=>.fail
end
def free:V->Bool
 | .agg cs=>frees cs
 | .tup cs=>frees cs
 | .fn _ cs=>frees cs
 | .ref _ | .ptr _ _ | .ept _ _ _ _ | .rct _ _=>false
 | .jref _ | .jept _ _ _ _ | .mref _ _ | .mept _ _ _ _ _ | .mmap _ _=>false
 | _=>true
 where frees:List V->Bool
 | []=>true
 | v::vs=>match free v with
  | true=>frees vs
  | false=>false
def YG (j:Jag) (i:Nat):V :=
 match j.size with
 | 1=>.sl j.s' (j.len i) (j.mem i)
 | _=>match j.get i with
  | .agg cs=>match j.mp with
   | none=>.agg (cs.set j.off (.sl j.s' (j.len i) (j.mem i)))
   | some q=>.agg ((cs.set j.off (.sl j.s' (j.len i) (j.mem i))).set q.off .anym)
  | _=>.und
def PM (h:List Blk):List V->Option (List V)
 | []=>some []
 | v::vs=>match (match v with
  | .ref id=>match h[id]? with
   | some (.row _ s n g)=>some (.sl s n g)
   | _=>none
  | v=>match free v with
   | true=>some v
   | false=>none:Option V),PM h vs with
  | some a,some b=>some (a::b)
  | _,_=>none
def Dn (h:List Blk):V->Option V
 | .agg cs=>match lends cs with
  | some l=>some (.agg l)
  | none=>none
 | .tup cs=>match lends cs with
  | some l=>some (.tup l)
  | none=>none
 | .fn f cs=>match lends cs with
  | some l=>some (.fn f l)
  | none=>none
 | .ref id=>match h[id]? with
  | some (.row _ s n g)=>some (.sl s n g)
  | _=>none
 | .nilS=>some (.sl 1 0 λ_=>.und)
 | .ptr id 0=>match h[id]? with
  | some (.cells cs)=>match free.frees cs with
   | true=>some (.pp (.agg cs))
   | false=>match PM h cs with
    | some l=>some (.pp (.agg l))
    | none=>none
  | _=>none
 | .jref id=>match h[id]? with
  | some (.jag j)=>some (.sl j.size j.n (YG j))
  | _=>none
 | .mref id i=>match h[id]? with
  | some (.jag j)=>some (.sl j.s' (j.len i) (j.mem i))
  | _=>none
 | .mmap _ _=>some .anym
 | .rct id k=>match h[id]? with
  | some (.row _ s n g)=>some (.slr s k n g)
  | _=>none
 | .ptr _ _ | .ept _ _ _ _ | .jept _ _ _ _ | .mept _ _ _ _ _ | .und=>none
 | v=>some v
 where lends:List V->Option (List V)
 | []=>some []
 | v::vs=>match Dn h v,lends vs with
  | some a,some b=>some (a::b)
  | _,_=>none
def N1:V->Bool
 | .agg cs=>bares cs
 | .tup cs=>bares cs
 | .fn _ cs=>bares cs
 | .sl _ _ _ | .slr _ _ _ _ | .pp _=>false
 | _=>true
 where bares:List V->Bool
 | []=>true
 | v::vs=>match N1 v with
  | true=>bares vs
  | false=>false
def Cf:List Blk->Bool
 | []=>true
 | .row _ _ n g::l=>(List.range n).all (λi=>N1 (g i)) && Cf l
 | .jag j::l=>(List.range j.n).all (λi=>N1 (j.get i) && (List.range (j.len i)).all λk=>N1 (j.mem i k)) && Cf l
 | _::_=>false
def BB:List Blk->Bool
 | []=>true
 | .jag j::l=>(List.range j.n).all j.live && BB l
 | _::l=>BB l
def Xu:List Blk->Bool
 | []=>false
 | .jag _::_=>true
 | _::l=>Xu l
def kill (id:Nat):V->V
 | .agg cs=>.agg (kills cs)
 | .tup cs=>.tup (kills cs)
 | .fn f cs=>.fn f (kills cs)
 | .ref k=>match Nat.beq k id with
  | true=>.und
  | false=>.ref k
 | .ept k s i o=>match Nat.beq k id with
  | true=>.und
  | false=>.ept k s i o
 | .rct k i=>match Nat.beq k id with
  | true=>.und
  | false=>.rct k i
 | .jref k=>match Nat.beq k id with
  | true=>.und
  | false=>.jref k
 | .jept k s i o=>match Nat.beq k id with
  | true=>.und
  | false=>.jept k s i o
 | .mref k i=>match Nat.beq k id with
  | true=>.und
  | false=>.mref k i
 | .mept k i s j o=>match Nat.beq k id with
  | true=>.und
  | false=>.mept k i s j o
 | .mmap k i=>match Nat.beq k id with
  | true=>.und
  | false=>.mmap k i
 | v=>v
 where kills:List V->List V
 | []=>[]
 | v::vs=>kill id v::kills vs
def Fi (id:Nat):Blk->Blk
 | .cells cs=>.cells (kill.kills id cs)
 | .saved vs=>.saved (kill.kills id vs)
 | .rng cd ts q=>.rng cd (kill.kills id ts) q
 | b=>b
def AQ (id:Nat):List Blk->List Blk
 | []=>[]
 | b::l=>Fi id b::AQ id l
def killM (id:Nat):V->V
 | .agg cs=>.agg (kills cs)
 | .tup cs=>.tup (kills cs)
 | .fn f cs=>.fn f (kills cs)
 | .mref k i=>match Nat.beq k id with
  | true=>.und
  | false=>.mref k i
 | .mept k i s j o=>match Nat.beq k id with
  | true=>.und
  | false=>.mept k i s j o
 | .mmap k i=>match Nat.beq k id with
  | true=>.und
  | false=>.mmap k i
 | v=>v
 where kills:List V->List V
 | []=>[]
 | v::vs=>killM id v::kills vs
def Fh (id:Nat):Blk->Blk
 | .cells cs=>.cells (killM.kills id cs)
 | .saved vs=>.saved (killM.kills id vs)
 | .rng cd ts q=>.rng cd (killM.kills id ts) q
 | b=>b
def BI (id:Nat):List Blk->List Blk
 | []=>[]
 | b::l=>Fh id b::BI id l
def St.kill (id:Nat) (st:St):St:=⟨Sy.kill.kills id st.t,AQ id st.h⟩
def shift (d:Nat):V->V
 | .agg cs=>.agg (shifts cs)
 | .tup cs=>.tup (shifts cs)
 | .fn f cs=>.fn f (shifts cs)
 | .ptr id o=>.ptr (Nat.add d id) o
 | .ref id=>.ref (Nat.add d id)
 | .ept id s i o=>.ept (Nat.add d id) s i o
 | .rct id k=>.rct (Nat.add d id) k
 | .jref id=>.jref (Nat.add d id)
 | .jept id s i o=>.jept (Nat.add d id) s i o
 | .mref id i=>.mref (Nat.add d id) i
 | .mept id i s k o=>.mept (Nat.add d id) i s k o
 | .mmap id i=>.mmap (Nat.add d id) i
 | v=>v
 where shifts:List V->List V
 | []=>[]
 | v::vs=>shift d v::shifts vs
def QG (n:Nat):V->Bool
 | .agg cs=>belows cs
 | .tup cs=>belows cs
 | .fn _ cs=>belows cs
 | .ref id=>Nat.blt id n
 | .ptr id _=>Nat.blt id n
 | .ept id _ _ _=>Nat.blt id n
 | .rct id _=>Nat.blt id n
 | .jref id=>Nat.blt id n
 | .jept id _ _ _=>Nat.blt id n
 | .mref id _=>Nat.blt id n
 | .mept id _ _ _ _=>Nat.blt id n
 | .mmap id _=>Nat.blt id n
 | _=>true
 where belows:List V->Bool
 | []=>true
 | v::vs=>match QG n v with
  | true=>belows vs
  | false=>false
def TX (n:Nat) (v:V):V :=
 match QG n v with
 | true=>v
 | false=>.und
def Kg (n:Nat):List V->List V
 | []=>[]
 | v::l=>TX n v::Kg n l
def IL (n:Nat):Blk->Blk
 | .cells cs=>.cells (Kg n cs)
 | .saved vs=>.saved (Kg n vs)
 | .rng cd ts q=>.rng cd (Kg n ts) q
 | b=>b
def Dy (n:Nat):List Blk->List Blk
 | []=>[]
 | b::l=>IL n b::Dy n l
def AcB:List Bool->List V->List V
 | b::bs,v::l=>(match b with
  | true=>v
  | false=>.und)::AcB bs l
 | _,[]=>[]
 | [],v::l=>v::l
def EC (ks:List Bool) (n:Nat) (st:St):St:=⟨Kg n (AcB ks st.t),Dy n (st.h.take n)⟩
structure Lp where
 ks:List Bool
 n:Nat
 ke:List Bool
 ne:Nat
 fuel:Nat
def Ay (f:St->T (Ex×St)) (l:Lp):Nat->St->T (Ex×St)
 | 0,_=>.fail
 | m+1,st=>(f st).bind λr=>match r.1 with
  | .nm=>Ay f l m (EC l.ks l.n r.2)
  | .ex i=>.leaf (.ex i,EC l.ke l.ne r.2)
  | .rt=>.leaf (.rt,EC l.ke l.ne r.2)
inductive Res where
 | more (l:List Blk)
 | all (st:St)
def Adc:Res->Bool
 | .more (.dead::_)=>false
 | .more _=>true
 | .all _=>false
def allT (b:Bool):T Unit :=
 match b with
 | true=>.leaf ()
 | false=>.fail
structure Cx0 where
 call:FuncId->List V->St->T (V×Res)
 glob:Nat->V
structure Cx where
 call:FuncId->List V->St->T (V×Res)
 loop:Nat->(St->T (Ex×St))->St->T (Ex×St)
 glob:Nat->V
def Cx.base (Γ:Cx):Cx0:=⟨Γ.call,Γ.glob⟩
def ev (Γ:Cx0) (st:St):Operand->V
 | .tmp t=>nth st.t t
 | .const v=>ofValue v
 | .global g=>Γ.glob g
 | .func f=>.fn f []
def put (st:St) (d:Option Tmp) (v:V):St :=
 match d with
 | some d=>⟨st.t.set d v,st.h⟩
 | none=>st
def cif (b:Bool) (u v:V):V:=bif b then u else v
def J1 (b:Bool) (u v:V):V :=
 match u,v with
 | .val (.int k x),.val (.int k' y)=>match Xt k k' with
  | true=>.val (.int k (sel b x y))
  | false=>cif b (.val (.int k x)) (.val (.int k' y))
 | .val (.bool x),.val (.bool y)=>.val (.bool (sel b x y))
 | .str l,.str l'=>.str (sel b l l')
 | u,v=>cif b u v
def IF (b:Bool):List V->List V->List V
 | u::us,v::vs=>J1 b u v::IF b us vs
 | _,_=>[]
def vif (b:Bool) (u v:V):V :=
 match u,v with
 | .agg us,.agg vs=>match Nat.beq us.length vs.length with
  | true=>.agg (IF b us vs)
  | false=>cif b (.agg us) (.agg vs)
 | u,v=>cif b u v
def AE (n:Nat) (g:Nat->V) (x:V):Nat->V:=λi=>vif (Fy i n) x (g i)
def Aen (n:Nat) (g g':Nat->V):Nat->V:=λi=>vif (Rk i n) (g i) (g' (i-n))
def Cq (n m:Nat) (gx g:Nat->V):Nat->V :=
 match m with
 | 1=>AE n gx (g 0)
 | _=>Aen n gx g
def BJ (g:Nat->V) (k:Nat) (x:V):Nat->V:=λi=>vif (Fy i k) x (g i)
section
variable (τ:List Ty) (Γ:Cx0)
def DY (st:St) (b:Blk) (v:Nat->V):T (V×St):=.leaf (v st.h.length,⟨st.t,st.h++[b]⟩)
def evs (st:St):List (Nat×Operand)->List (Nat×V)
 | []=>[]
 | (i,x)::l=>(i,ev Γ st x)::evs st l
def args (st:St):List Operand->List V
 | []=>[]
 | x::l=>ev Γ st x::args st l
def RX:List V->Nat->V
 | [],_=>.und
 | [v],_=>v
 | v::l,i=>J1 (Fy i 0) v (RX l (FC i 1))
def AfT:V->Bool
 | .val (.int .u8 _)=>true
 | _=>false
def Ajm:V->Bool
 | .str _=>true
 | _=>false
def AcX (len:Nat) (els:List V):Bool :=
 match Nat.blt 1 len with
 | true=>match els.all AfT with
  | true=>true
  | false=>match Nat.blt 16 len with
   | true=>els.all Ajm
   | false=>false
 | false=>false
def Ct (len:Nat) (els:List V):Nat->V :=
 match AcX len els with
 | true=>λi=>RX els i
 | false=>λi=>nth els i
def Re (b:Bool) (u v:V):V :=
 match u,v with
 | .agg us,.agg vs=>match Nat.beq us.length vs.length with
  | true=>.agg (IF b us vs)
  | false=>cif b (.agg us) (.agg vs)
 | u,v=>J1 b u v
def RZ:List V->Nat->V
 | [],_=>.und
 | [v],_=>v
 | v::l,i=>Re (Fy i 0) v (RZ l (FC i 1))
def Px (f:Nat->Option V):Nat->Nat->Option (List V)
 | 0,_=>some []
 | m+1,k=>match f k,Px f m (Nat.succ k) with
  | some v,some l=>some (v::l)
  | _,_=>none
def HK:Nat->List (Nat×V)->Option (List V)
 | _,[]=>some []
 | k,(i,v)::l=>match Nat.beq i k,HK (Nat.succ k) l with
  | true,some vs=>some (v::vs)
  | _,_=>none
def Mq (size:Nat):List V->Bool
 | []=>true
 | v::l=>match v.cells with
  | some cs=>match Nat.beq cs.length size,free v with
   | true,true=>Mq size l
   | _,_=>false
  | none=>false
def CW (f:Nat->Bool) (k:Nat) (b:Bool):Nat->Bool:=λi=>sel (Fy i k) b (f i)
def Dj (f:Nat->Nat) (k n:Nat):Nat->Nat:=λi=>sel (Fy i k) n (f i)
def DN (f:Nat->Nat->V) (k:Nat) (g:Nat->V):Nat->Nat->V:=λi j=>Re (Fy i k) (g j) (f i j)
def JG (st:St) (id i:Nat):T St :=
 match st.h[id]? with
 | some (.jag j)=>.br (j.live i) (.leaf ⟨killM.kills id st.t,(BI id st.h).set id (.jag { j with live:=CW j.live i false })++[.row j.e' j.s' (j.len i) (j.mem i)]⟩) .fail
 | _=>.fail
def US (st:St) (id i r:Nat):T St :=
 match st.h[id]?,st.h[r]? with
 | some (.jag j),some (.row e s n g)=>match Nat.beq e j.e',Nat.beq s j.s' with
  | true,true=>.br (nlt i j.n) (.leaf ⟨killM.kills id (kill.kills r st.t),((BI id (AQ r st.h)).set r .dead).set id (.jag { j with live:=CW j.live i true,len:=Dj j.len i n,mem:=DN j.mem i g })⟩) .fail
  | _,_=>.fail
 | _,_=>.fail
def G0 {α:Type} (f:Nat->Int->α) (k:Nat) (g:Int->α):Nat->Int->α:=λi x=>sel (Fy i k) (g x) (f i x)
def Aoi:Option Mp->Nat->Bool
 | none,_=>false
 | some q,off=>Nat.beq off q.off
def Ac3:Option Mp->Nat->Nat->Bool
 | none,_,_=>true
 | some q,off,n=>bor (Nat.ble (Nat.add off n) q.off) (Nat.blt q.off off)
def Acj (st:St) (id i r:Nat):T St :=
 match st.h[id]?,st.h[r]? with
 | some (.jag j),some (.imap t 0 _)=>match j.mp with
  | some q=>match Nat.beq t q.t with
   | true=>.br (nlt i j.n) (.leaf ⟨killM.kills id (kill.kills r st.t),((BI id (AQ r st.h)).set r .dead).set id (.jag { j with mp:=some { q with live:=CW q.live i true,len:=Dj q.len i 0,hs:=G0 q.hs i λ_=>false,get:=G0 q.get i λ_=>0 } })⟩) .fail
   | false=>.fail
  | none=>.fail
 | _,_=>.fail
def TA (st:St) (e:TypeId) (r:Nat):T (V×St) :=
 match st.h[r]? with
 | some (.row e' s' n g)=>.leaf (.jref st.h.length,⟨kill.kills r st.t,(AQ r st.h).set r .dead++[.jag ⟨e,1,1,λ_=>.und,0,e',s',λ_=>true,λ_=>n,λ_=>g,none⟩]⟩)
 | _=>.fail
def YO (ty:Ty) (e:TypeId) (st:St) (id id':Nat):T (V×St) :=
 match st.h[id]?,st.h[id']? with
 | some (.jag j),some (.jag y) =>
  match j.mp,y.mp with
  | none,none=>match Nat.beq j.e e,Nat.beq j.size y.size,Nat.beq j.off y.off,Nat.beq j.e' y.e',Nat.beq j.s' y.s',Nat.beq y.n 1,Nat.beq j.size ty.size,Nat.beq id id' with
   | true,true,true,true,true,true,true,false =>
    .br (y.live 0) (.br (CJ j.n 1 ty.bytes)
     (.leaf (.jref id,⟨kill.kills id (kill.kills id' st.t),((AQ id (AQ id' st.h)).set id' .dead).set id (.jag { j with n:=Cd j.n 1,get:=AE j.n j.get (y.get 0),live:=CW j.live j.n true,len:=Dj j.len j.n (y.len 0),mem:=DN j.mem j.n (y.mem 0) })⟩)) .fail) .fail
   | _,_,_,_,_,_,_,_=>.fail
  | _,_=>.fail
 | _,_=>.fail
def Sp (ty:Ty) (e:TypeId) (st:St) (x:V) (m:Nat) (g:Nat->V):T (V×St) :=
 match x with
 | .ref id=>match st.h[id]? with
  | some (.row e' s n gx) =>
   match Nat.beq e e',Nat.beq s ty.size with
   | true,true =>
    .br (CJ n m ty.bytes)
     (.leaf (.ref id,⟨kill.kills id st.t,(AQ id st.h).set id (.row e s (Cd n m) (Cq n m gx g))⟩)) .fail
   | _,_=>.fail
  | some (.xrow true e' s n gx) =>
   match Nat.beq e e',Nat.beq s ty.size with
   | true,true =>
    .br (CJ n m ty.bytes)
     (.leaf (.ref id,⟨kill.kills id st.t,(AQ id st.h).set id (.xrow true e s (Cd n m) (Cq n m gx g))⟩)) .fail
   | _,_=>.fail
  | _=>.fail
 | _=>.fail
def YN (ty:Ty) (e:TypeId) (st:St) (x:V) (m:Nat) (g:Nat->V):T (V×St) :=
 match x with
 | .nilS=>Sp ty e ⟨st.t,st.h++[.row e ty.size 0 λ_=>.und]⟩ (.ref st.h.length) m g
 | .mref id i=>(JG st id i).bind λst1=>Sp ty e st1 (.ref st.h.length) m g
 | .rct id k=>match st.h[id]? with
  | some (.row e' s _ gx)=>Sp ty e ⟨kill.kills id st.t,(AQ id st.h).set id (.row e' s k gx)⟩ (.ref id) m g
  | _=>.fail
 | x=>Sp ty e st x m g
def Aeg (x:Int):UInt8:=UInt8.ofNat x.toNat
def AdT (st:St) (src dst:TypeId) (x:V):T V :=
 match x with
 | .ref id=>match τ[src]?,τ[dst]? with
  | some ts,some td=>match ts.k,td.k with
   | .sl e,.str=>match τ[e]?,st.h[id]? with
    | some te,some (.row _ 1 1 g)=>match te.k,g 0 with
     | .int .u8,.val (.int .u8 b)=>.leaf (.str [Aeg b])
     | _,_=>.fail
    | _,_=>.fail
   | _,_=>.fail
  | _,_=>.fail
 | x=>AdR τ src dst x
def YJ (j:Jag) (id i:Nat):V :=
 match j.size with
 | 1=>.mref id i
 | _=>match j.get i with
  | .agg cs=>match j.mp with
   | none=>.agg (cs.set j.off (.mref id i))
   | some q=>.agg ((cs.set j.off (.mref id i)).set q.off (.mmap id i))
  | _=>.und
def AcW (st:St) (t:TypeId):V->T V
 | .ptr id off=>match st.h[id]? with
  | some (.cells cs)=>match HZ τ t cs off with
   | some v=>.leaf (v)
   | none=>.fail
  | _=>.fail
 | .pp v=>match EM τ t v 0 with
  | some v=>.leaf (v)
  | none=>.fail
 | .ept id s i off=>match st.h[id]? with
  | some (.row _ s' n g)=>match Nat.beq s s',EM τ t (g i) off with
   | true,some v=>.br (nlt i n) (.leaf (v)) .fail
   | _,_=>.fail
  | _=>.fail
 | .jept id s i off=>match st.h[id]? with
  | some (.jag j)=>match Nat.beq s j.size,EM τ t (YJ j id i) off with
   | true,some v=>.br (nlt i j.n) (.br (j.live i) (.leaf v) .fail) .fail
   | _,_=>.fail
  | _=>.fail
 | .mept id i s k off=>match st.h[id]? with
  | some (.jag j)=>match Nat.beq s j.s',EM τ t (j.mem i k) off with
   | true,some v=>.br (j.live i) (.br (nlt k (j.len i)) (.leaf v) .fail) .fail
   | _,_=>.fail
  | _=>.fail
 | _=>.fail
def E8 (old:V) (off:Nat) (cs:List V):Option V :=
 match old with
 | .agg l=>match Nat.ble (Nat.add off cs.length) l.length with
  | true=>some (.agg (CY l off cs))
  | false=>none
 | v=>match Jm v,off,cs with
  | true,0,[x]=>some x
  | _,_,_=>none
def Pd (st:St) (t:TypeId) (a x:V):T (V×St) :=
 match x.cells,τ[t]? with
 | some cs,some ty=>match Nat.beq cs.length ty.size with
  | true=>match a with
   | .ptr id off=>match st.h[id]? with
    | some (.cells old)=>match Nat.ble (Nat.add off cs.length) old.length with
     | true=>.leaf (A7,⟨st.t,st.h.set id (.cells (CY old off cs))⟩)
     | false=>.fail
    | _=>.fail
   | .ept id s' i off=>match st.h[id]? with
    | some (.row e s n g)=>match E8 (g i) off cs,free.frees cs,Nat.beq s s' with
     | some v,true,true=>.br (nlt i n) (.leaf (A7,⟨st.t,st.h.set id (.row e s n (BJ g i v))⟩)) .fail
     | _,_,_=>.fail
    | some (.xrow false e s n g)=>match E8 (g i) off cs,free.frees cs,Nat.beq s s' with
     | some v,true,true=>.br (nlt i n) (.leaf (A7,⟨st.t,st.h.set id (.xrow false e s n (BJ g i v))⟩)) .fail
     | _,_,_=>.fail
    | _=>.fail
   | .jept id s' i off=>match st.h[id]? with
    | some (.jag j)=>match Nat.beq s' j.size with
     | true=>match Nat.beq off j.off,x with
      | true,.ref r=>(US st id i r).bind λst=>.leaf (A7,st)
      | true,.mref id2 i2=>(JG st id2 i2).bind λst1=>(US st1 id i st.h.length).bind λst=>.leaf (A7,st)
      | _,_=>match Aoi j.mp off,x with
       | true,.ref r=>(Acj st id i r).bind λst=>.leaf (A7,st)
       | _,_=>match E8 (j.get i) off cs,free.frees cs,Av (bor (Nat.ble (Nat.add off cs.length) j.off) (Nat.blt j.off off)) (Ac3 j.mp off cs.length) with
        | some v,true,true=>.br (nlt i j.n) (.leaf (A7,⟨st.t,st.h.set id (.jag { j with get:=BJ j.get i v })⟩)) .fail
        | _,_,_=>.fail
     | false=>.fail
    | _=>.fail
   | .mept id u s' i off=>match st.h[id]? with
    | some (.jag j)=>match E8 (j.mem u i) off cs,free.frees cs,Nat.beq s' j.s' with
     | some v,true,true=>.br (j.live u) (.br (nlt i (j.len u)) (.leaf (A7,⟨st.t,st.h.set id (.jag { j with mem:=DN j.mem u (BJ (j.mem u) i v) })⟩)) .fail) .fail
     | _,_,_=>.fail
    | _=>.fail
   | _=>.fail
  | false=>.fail
 | _,_=>.fail
def WF (st:St) (t:TypeId) (x:V) (lo hi:Option V):T V :=
 match τ[t]? with
 | some ty =>
  match ty.k,x with
  | .str,.str l =>
   match lo,hi with
   | none,none=>.leaf (.str l)
   | some (.val (.int _ a)),none=>.br (Av (ile 0 a) (ile a (Int.ofNat (CM l)))) (.leaf (.str (Kw (toN a) l))) .fail
   | none,some (.val (.int _ b))=>.br (Av (ile 0 b) (ile b (Int.ofNat (CM l)))) (.leaf (.str (Ku (toN b) l))) .fail
   | some (.val (.int _ a)),some (.val (.int _ b)) =>
    .br (Av (ile 0 a) (Av (ile a b) (ile b (Int.ofNat (CM l))))) (.leaf (.str (Kw (toN a) (Ku (toN b) l)))) .fail
   | _,_=>.fail
  | .sl e,.sl s n g =>
   match τ[e]? with
   | some te=>match Nat.beq s te.size with
    | true=>match lo,hi with
     | none,none=>.leaf (.sl s n g)
     | some (.val (.int _ a)),none=>.br (Av (ile 0 a) (ile a (Int.ofNat n))) (.leaf (.sl s (FC n (toN a)) λi=>g (Cd (toN a) i))) .fail
     | none,some (.val (.int _ b))=>.br (Av (ile 0 b) (ile b (Int.ofNat n))) (.leaf (.sl s (toN b) g)) .fail
     | some (.val (.int _ a)),some (.val (.int _ b)) =>
      .br (Av (ile 0 a) (Av (ile a b) (ile b (Int.ofNat n)))) (.leaf (.sl s (FC (toN b) (toN a)) λi=>g (Cd (toN a) i))) .fail
     | _,_=>.fail
    | false=>.fail
   | none=>.fail
  | .sl e,.slr s _ m g =>
   match τ[e]? with
   | some te=>match Nat.beq s te.size with
    | true=>match lo,hi with
     | none,some (.val (.int _ b))=>.br (Av (ile 0 b) (ile b (Int.ofNat m))) (.leaf (.sl s (toN b) g)) .fail
     | _,_=>.fail
    | false=>.fail
   | none=>.fail
  | .sl e,.ref id=>match st.h[id]? with
   | some (.row _ s n _)=>match τ[e]? with
    | some te=>match Nat.beq s te.size with
     | true=>match lo,hi with
      | none,some (.val (.int _ b))=>.br (Av (ile 0 b) (ile b (Int.ofNat n))) (.leaf (.rct id (toN b))) .fail
      | _,_=>.fail
     | false=>.fail
    | none=>.fail
   | _=>.fail
  | _,_=>.fail
 | none=>.fail
def KW (st:St) (t:TypeId) (lit:Bool) (x ix:V):T V :=
 match ix,τ[t]? with
 | .val (.int _ i),some ty =>
  match ty.k with
  | .sl e=>match τ[e]? with
   | some te=>match x with
    | .sl s n g=>match Nat.beq s te.size with
     | true=>.br (Av (ile 0 i) (ilt i (Int.ofNat n))) (.leaf (.pp (g (toN i)))) .fail
     | false=>.fail
    | .rct id k=>match st.h[id]? with
     | some (.row _ s _ _)=>match Nat.beq s te.size with
      | true=>.br (Av (ile 0 i) (ilt i (Int.ofNat k))) (.leaf (.ept id s (toN i) 0)) .fail
      | false=>.fail
     | _=>.fail
    | .ref id=>match st.h[id]? with
     | some (.row _ s n _)=>match Nat.beq s te.size with
      | true=>.br (Av (ile 0 i) (ilt i (Int.ofNat n))) (.leaf (.ept id s (toN i) 0)) .fail
      | false=>.fail
     | some (.xrow false _ s n _)=>match Nat.beq s te.size with
      | true=>.br (Av (ile 0 i) (ilt i (Int.ofNat n))) (.leaf (.ept id s (toN i) 0)) .fail
      | false=>.fail
     | _=>.fail
    | .jref id=>match st.h[id]? with
     | some (.jag j)=>match Nat.beq j.size te.size with
      | true=>.br (Av (ile 0 i) (ilt i (Int.ofNat j.n))) (.leaf (.jept id j.size (toN i) 0)) .fail
      | false=>.fail
     | _=>.fail
    | .mref id k=>match st.h[id]? with
     | some (.jag j)=>match Nat.beq j.s' te.size with
      | true=>.br (j.live k) (.br (Av (ile 0 i) (ilt i (Int.ofNat (j.len k)))) (.leaf (.mept id k j.s' (toN i) 0)) .fail) .fail
      | false=>.fail
     | _=>.fail
    | _=>.fail
   | none=>.fail
  | .arr len e=>match τ[e]? with
   | some te=>match x with
    | .ptr id off=>match lit with
     | true=>match J0 i len with
      | true=>.leaf (.ptr id (Nat.add off (Nat.mul i.toNat te.size)))
      | false=>.fail
     | false=>MX i (λk=>.leaf (.ptr id (Nat.add off (Nat.mul k te.size)))) len 0
    | .pp v=>match lit with
     | true=>match J0 i len with
      | true=>match EM τ e v (Nat.mul i.toNat te.size) with
       | some v=>.leaf (.pp v)
       | none=>.fail
      | false=>.fail
     | false=>match Nat.blt 16 len,Px (λk=>EM τ e v (Nat.mul k te.size)) len 0 with
      | true,some ps=>.br (Av (ile 0 i) (ilt i (Int.ofNat len))) (.leaf (.pp (RZ ps (toN i)))) .fail
      | _,_=>MX i (λk=>match EM τ e v (Nat.mul k te.size) with
       | some v=>.leaf (.pp v)
       | none=>.fail) len 0
    | .ept id s 0 0=>match st.h[id]? with
     | some (.row _ s' n _)=>match Nat.beq s s',Nat.beq s te.size,Nat.beq n len with
      | true,true,true=>.br (Av (ile 0 i) (ilt i (Int.ofNat n))) (.leaf (.ept id s (toN i) 0)) .fail
      | _,_,_=>.fail
     | _=>.fail
    | _=>.fail
   | none=>.fail
  | _=>.fail
 | _,_=>.fail
def Xr (t:TypeId) (lit:Bool) (x ix:V):T V :=
 match ix,τ[t]? with
 | .val (.int _ i),some ty =>
  match ty.k,x with
  | .str,.str l=>.br (Av (ile 0 i) (ilt i (Int.ofNat (CM l)))) (.leaf (.val (.int .u8 (Of l (toN i))))) .fail
  | .arr len e,.agg cs=>match τ[e]? with
   | some te=>match lit with
    | true=>match J0 i len with
     | true=>T.ofOpt (HZ τ e cs (Nat.mul i.toNat te.size))
     | false=>.fail
    | false=>MX i (λk=>T.ofOpt (HZ τ e cs (Nat.mul k te.size))) len 0
   | none=>.fail
  | _,_=>.fail
 | _,_=>.fail
def lenV (st:St) (t:TypeId) (x:V):T V :=
 match τ[t]? with
 | some ty =>
  match ty.k,x with
  | .str,.str l=>.leaf (iV (Int.ofNat (CM l)))
  | .sl _,.sl _ n _=>.leaf (iV (Int.ofNat n))
  | .sl _,.nilS=>.leaf (iV 0)
  | .sl _,.rct _ k=>.leaf (iV (Int.ofNat k))
  | .sl _,.ref id=>match st.h[id]? with
   | some (.row _ _ n _)=>.leaf (iV (Int.ofNat n))
   | some (.xrow _ _ _ n _)=>.leaf (iV (Int.ofNat n))
   | _=>.fail
  | .sl _,.jref id=>match st.h[id]? with
   | some (.jag j)=>.leaf (iV (Int.ofNat j.n))
   | _=>.fail
  | .sl _,.mref id i=>match st.h[id]? with
   | some (.jag j)=>.br (j.live i) (.leaf (iV (Int.ofNat (j.len i)))) .fail
   | _=>.fail
  | .arr n _,_=>.leaf (iV (Int.ofNat n))
  | .imap _,.mmap id i=>match st.h[id]? with
   | some (.jag j)=>match j.mp with
    | some q=>.br (nlt i j.n) (.br (q.live i) (.leaf (iV (Int.ofNat (q.len i)))) .fail) .fail
    | none=>.fail
   | _=>.fail
  | _,_=>.fail
 | none=>.fail
def Jn:List (Nat×Nat)->Option (Nat×Nat×Nat)
 | []=>none
 | (off,t)::l=>match τ[t]? with
   | some ty=>match ty.k with
    | .sl e=>match τ[e]? with
     | some te=>match Nat.blt 0 te.size with
      | true=>some (off,e,te.size)
      | false=>Jn l
     | none=>Jn l
    | _=>Jn l
   | none=>Jn l
def H4:List (Nat×Nat)->Option (Nat×Nat×Nat)
 | []=>none
 | (off,t)::l=>match τ[t]? with
   | some ty=>match ty.k with
    | .sl e=>match τ[e]? with
     | some te=>match Nat.blt 0 te.size with
      | true=>some (off,e,te.size)
      | false=>H4 l
     | none=>H4 l
    | .st fs=>match Jn τ fs with
     | some (o,e,s)=>some (Nat.add off o,e,s)
     | none=>H4 l
    | _=>H4 l
   | none=>H4 l
def I0 (e:TypeId):Option (Nat×Nat×Nat) :=
 match τ[e]? with
 | some ty=>match ty.k with
  | .sl _=>H4 τ [(0,e)]
  | .st fs=>H4 τ fs
  | _=>none
 | none=>none
def NP (st:St) (t:TypeId) (v:V):T (V×St) :=
 match v with
 | .nilS=>match τ[t]? with
  | some ty=>match ty.k with
   | .sl e=>match τ[e]? with
    | some te=>match Nat.blt 0 te.size with
     | true=>match te.k with
      | .sl _=>match I0 τ e with
       | some (off,e',s')=>DY st (.jag ⟨e,te.size,0,λ_=>.und,off,e',s',λ_=>true,λ_=>0,λ_ _=>.und,none⟩) .jref
       | none=>.leaf (.nilS,st)
      | _=>DY st (.row e te.size 0 λ_=>.und) .ref
     | false=>.leaf (.nilS,st)
    | none=>.leaf (.nilS,st)
   | _=>.leaf (.nilS,st)
  | none=>.leaf (.nilS,st)
 | v=>.leaf (v,st)
def Uw (st:St) (t:TypeId) (x y:V):T (V×St) :=
 match τ[t]? with
 | some ts=>match ts.k with
  | .sl e =>
   match τ[e]? with
   | some ty =>
    match ty.zero.cells with
    | some zc =>
     match Nat.beq zc.length ty.size,Nat.blt 0 ty.size,Nat.blt 0 ty.bytes with
     | true,true,true =>
      match y with
      | .ref id'=>match st.h[id']? with
       | some (.row _ s' m g)=>match Nat.beq s' ty.size with
        | true=>YN ty e st x m g
        | false=>.fail
       | _=>.fail
      | .sl s' m g=>match Nat.beq s' ty.size with
       | true=>YN ty e st x m g
       | false=>.fail
      | .jref id'=>match x with
       | .jref id=>YO ty e st id id'
       | .nilS=>(NP τ st t .nilS).bind λr=>match r.1 with
        | .jref id=>YO ty e r.2 id id'
        | _=>.fail
       | _=>.fail
      | _=>.fail
     | _,_,_=>.fail
    | none=>.fail
   | none=>.fail
  | _=>.fail
 | none=>.fail
def OT:List (Nat×Nat)->St->List V->T (List V×St)
 | [],st,cs=>.leaf (cs,st)
 | (off,t)::l,st,cs=>match cs[off]? with
   | some .nilS=>(NP τ st t .nilS).bind λr=>OT l r.2 (cs.set off r.1)
   | _=>OT l st cs
def upV (st:St) (t:TypeId) (v:V):T (V×St) :=
 match v with
 | .nilS=>NP τ st t .nilS
 | .agg cs=>match τ[t]? with
  | some ty=>match ty.k with
   | .st fs=>(OT τ fs st cs).bind λr=>.leaf (.agg r.1,r.2)
   | _=>.leaf (.agg cs,st)
  | none=>.leaf (.agg cs,st)
 | v=>.leaf (v,st)
def Vk:List (Nat×Nat)->List V->Nat->Option Mp
 | [],_,_=>none
 | (o,t)::l,zc,off=>match τ[t]? with
   | some ty=>match ty.k,zc[o]?,Nat.beq o off with
    | .imap _,some (.val (.map none)),false=>some ⟨o,t,λ_=>false,λ_=>0,λ_ _=>false,λ_ _=>0⟩
    | _,_,_=>Vk l zc off
   | none=>Vk l zc off
def I9 (te:Ty) (zc:List V) (off:Nat):Option Mp :=
 match te.k with
 | .st fs=>Vk τ fs zc off
 | _=>none
def AcD (st:St) (t:TypeId) (l c:V):T (V×St) :=
 match l,c,τ[t]? with
 | .val (.int .i64 l),.val (.int .i64 c),some ty=>match ty.k with
  | .sl e=>match τ[e]? with
   | some te=>match te.zero.cells with
    | some zc=>match Nat.beq zc.length te.size,Nat.blt 0 te.size with
     | true,true=>match I0 τ e with
      | some (off,e',s')=>match zc[off]? with
       | some .nilS=>.br (G2 te.bytes l c) (DY st (.jag ⟨e,te.size,toN l,λ_=>te.zero,off,e',s',λ_=>true,λ_=>0,λ_ _=>.und,I9 τ te zc off⟩) .jref) .fail
       | _=>.fail
      | none =>
      .br (G2 te.bytes l c)
       (DY st (.row e te.size (toN l) λ_=>te.zero) .ref) .fail
     | _,_=>.fail
    | none=>.fail
   | none=>.fail
  | _=>.fail
 | _,_,_=>.fail
def P9 (st:St) (t:TypeId):T (V×St) :=
 match τ[t]? with
 | some ty=>match ty.k with
  | .imap _=>DY st (.imap t 0 λ_=>0) .ref
  | .gmap _ e=>match τ[e]? with
   | some te=>DY st (.gmap t [] (λ_=>false) λ_=>te.zero) .ref
   | none=>.fail
  | _=>.fail
 | none=>.fail
def I5 (get:Int->Int) (k v:Int):Int->Int:=λx=>sel (ieq x k) v (get x)
def U5 (e:TypeId):Bool :=
 match τ[e]? with
 | some te=>match te.zero with
  | .val (.int .i64 (.ofNat 0))=>true
  | _=>false
 | none=>false
def Tc (hs:Key->Bool) (k:Key):Key->Bool:=λx=>bor (keq x k) (hs x)
def Rh (g:Key->V) (k:Key) (v:V):Key->V:=λx=>Re (keq x k) v (g x)
def Yv {α:Type} (k:Key) (f:V->T α):List (Key×V)->T α
 | []=>.fail
 | a::l=>.br (keq k a.1) (f a.2) (Yv k f l)
def O8:K->Bool
 | .other=>true
 | _=>false
def TT {α:Type} (st:St) (t:TypeId) (b:Bool) (e:TypeId) (id:Nat) (x:V) (f:V->Bool->V) (r:V->T α):T α :=
 match st.h[id]?,τ[e]?,Aao b x with
 | some (.gmap t' ks hs get),some te,some k=>match Nat.beq t t',te.zero.cells with
  | true,some _=>.br (Xq k) (match O8 te.k with
   | true=>Yv k (λv=>r (f v true)) ks
   | false=>r (f (Re (hs k) (get k) te.zero) (hs k))) .fail
  | _,_=>.fail
 | _,_,_=>.fail
def T8 (st:St) (t:TypeId) (m x:V):T V :=
 match τ[t]? with
 | some ty=>match ty.k,m,x with
  | .imap e,.ref id,.val (.int .i64 k)=>match st.h[id]?,U5 τ e with
   | some (.imap t' _ get),true=>match Nat.beq t t' with
    | true=>.br (IM k) (.leaf (.val (.int .i64 (get k)))) .fail
    | false=>.fail
   | _,_=>.fail
  | .imap e,.mmap id i,.val (.int .i64 k)=>match st.h[id]?,U5 τ e with
   | some (.jag j),true=>match j.mp with
    | some q=>match Nat.beq t q.t with
     | true=>.br (q.live i) (.br (IM k) (.leaf (.val (.int .i64 (q.get i k)))) .fail) .fail
     | false=>.fail
    | none=>.fail
   | _,_=>.fail
  | .gmap b e,.ref id,x=>TT τ st t b e id x (λv _=>v) .leaf
  | _,_,_=>.fail
 | none=>.fail
def T9 (st:St) (t:TypeId) (m x:V):T V :=
 match τ[t]? with
 | some ty=>match ty.k,m,x with
  | .imap e,.mmap id i,.val (.int .i64 k)=>match st.h[id]?,U5 τ e with
   | some (.jag j),true=>match j.mp with
    | some q=>match Nat.beq t q.t with
     | true=>.br (q.live i) (.br (IM k) (.leaf (.tup [.val (.int .i64 (q.get i k)),bV (q.hs i k)])) .fail) .fail
     | false=>.fail
    | none=>.fail
   | _,_=>.fail
  | .gmap b e,.ref id,x=>TT τ st t b e id x (λv h=>.tup [v,bV h]) .leaf
  | _,_,_=>.fail
 | none=>.fail
def O3 (st:St) (t:TypeId) (m x v:V):T (V×St) :=
 match τ[t]? with
 | some ty=>match ty.k,m,x,v with
  | .imap _,.ref id,.val (.int .i64 k),.val (.int .i64 y)=>match st.h[id]? with
   | some (.imap t' n get)=>match Nat.beq t t' with
    | true=>.br (nlt n 4611686018427387904) (.br (IM k) (.br (IM y) (.leaf (A7,⟨st.t,st.h.set id (.imap t (Cd n 1) (I5 get k y))⟩)) .fail) .fail) .fail
    | false=>.fail
   | _=>.fail
  | .imap _,.mmap id i,.val (.int .i64 k),.val (.int .i64 y)=>match st.h[id]? with
   | some (.jag j)=>match j.mp with
    | some q=>match Nat.beq t q.t with
     | true=>.br (nlt i j.n) (.br (q.live i) (.br (nlt (q.len i) 4611686018427387904) (.br (IM k) (.br (IM y) (.leaf (A7,⟨st.t,st.h.set id (.jag { j with mp:=some { q with len:=Dj q.len i (sel (q.hs i k) (q.len i) (Cd (q.len i) 1)),hs:=G0 q.hs i λx=>sel (ieq x k) true (q.hs i x),get:=G0 q.get i (I5 (q.get i) k y) } })⟩)) .fail) .fail) .fail) .fail) .fail
     | false=>.fail
    | none=>.fail
   | _=>.fail
  | .gmap b e,.ref id,x,y=>match st.h[id]?,τ[e]?,Aao b x with
   | some (.gmap t' ks hs get),some te,some k=>match Nat.beq t t',free y with
    | true,true=>.br (Xq k) (.leaf (A7,⟨st.t,st.h.set id (.gmap t (match O8 te.k with | true=>(k,y)::ks | false=>[]) (Tc hs k) (Rh get k y))⟩)) .fail
    | _,_=>.fail
   | _,_,_=>.fail
  | _,_,_,_=>.fail
 | none=>.fail
def Aha (t:TypeId):Bool:=match τ[t]? with
 | some ty=>match ty.k with
  | .imap _=>true
  | _=>false
 | none=>false
def AkU (t:TypeId):Bool:=match τ[t]? with
 | some ty=>match ty.k with
  | .sl _=>true
  | _=>false
 | none=>false
def AjM (st:St) (op:BinOp) (t:TypeId) (lit:Bool) (x y:V):T V :=
 match x,y with
 | .mmap id i,.val (.map none)=>match st.h[id]? with
  | some (.jag j)=>match j.mp,Aha τ t with
   | some q,true=>match op with
    | .eql=>.leaf (bV (AI (q.live i)))
    | .neq=>.leaf (bV (q.live i))
    | _=>.fail
   | _,_=>.fail
  | _=>.fail
 | .sl _ n _,.nilS=>match AkU τ t with
  | true=>match op with
   | .eql=>.br (Rk 0 n) (.leaf (bV false)) .fail
   | .neq=>.br (Rk 0 n) (.leaf (bV true)) .fail
   | _=>.fail
  | false=>.fail
 | x,y=>AjL τ op t lit x y
def FF (s:TypeId) (f:Nat) (x:V):T V :=
 match τ[s]? with
 | some ty=>match ty.k with
  | .st fs=>match fs[f]? with
   | some (off,ft)=>match τ[ft]? with
    | some te=>match Nat.blt 0 te.size with
     | true=>match x with
      | .ptr id o=>.leaf (.ptr id (Nat.add o off))
      | .ept id s i o=>.leaf (.ept id s i (Nat.add o off))
      | .jept id s i o=>.leaf (.jept id s i (Nat.add o off))
      | .mept id i s k o=>.leaf (.mept id i s k (Nat.add o off))
      | .pp v=>match EM τ ft v off with
       | some v=>.leaf (.pp v)
       | none=>.fail
      | _=>.fail
     | false=>.fail
    | none=>.fail
   | none=>.fail
  | _=>.fail
 | none=>.fail
def Xz (s:TypeId) (f:Nat) (x:V):T V :=
 match τ[s]? with
 | some ty=>match ty.k,x with
  | .st fs,.agg cs=>match fs[f]? with
   | some (off,ft)=>T.ofOpt (HZ τ ft cs off)
   | none=>.fail
  | _,_=>.fail
 | none=>.fail
def keep (st:St) (t:T V):T (V×St):=t.bind λv=>.leaf (v,st)
def Gw (o:Oper) (st:St):T V :=
 match o.op with
 | .move x | .assign x =>
  match ev Γ st x with
  | .nilS=>.fail
  | v=>.leaf v
 | .pick c a b =>
  match ev Γ st c with
  | .val (.bool c)=>.br c (.leaf (ev Γ st a)) (.leaf (ev Γ st b))
  | _=>.fail
 | .build t parts=>T.ofOpt (XR τ t (evs Γ st parts.toList))
 | .load t a=>AcW τ st t (ev Γ st a)
 | .nilCheck x =>
  match ev Γ st x with
  | .ptr id o=>.leaf (.ptr id o)
  | .ept id s i o=>.leaf (.ept id s i o)
  | .jept id s i o=>.leaf (.jept id s i o)
  | .mept id i s k o=>.leaf (.mept id i s k o)
  | .pp v=>.leaf (.pp v)
  | .fn f cs=>.leaf (.fn f cs)
  | _=>.fail
 | .binOp op t x y _=>AjM τ st op t (Nm y) (ev Γ st x) (ev Γ st y)
 | .unOp op _ x=>unV op (ev Γ st x)
 | .convert src dst x=>AdT τ st src dst (ev Γ st x)
 | .makeFunc (.func f) first captured=>match Nat.beq first.size 0 with
  | true=>.leaf (.fn f (args Γ st captured.toList))
  | false=>.fail
 | .slice t x lo hi none=>WF τ st t (ev Γ st x) (lo.map (ev Γ st)) (hi.map (ev Γ st))
 | .fieldAddr s x f=>FF τ s f (ev Γ st x)
 | .field s x f=>Xz τ s f (ev Γ st x)
 | .indexAddr t x ix=>KW τ st t (Nm ix) (ev Γ st x) (ev Γ st ix)
 | .lookup t m x false=>T8 τ st t (ev Γ st m) (ev Γ st x)
 | .lookup t m x true=>T9 τ st t (ev Γ st m) (ev Γ st x)
 | .index t x ix=>Xr τ t (Nm ix) (ev Γ st x) (ev Γ st ix)
 | .extract x i =>
  match ev Γ st x with
  | .tup vs=>T.ofOpt vs[i]?
  | _=>.fail
 | .call c =>
  match c.callee with
  | .value f =>
   match ev Γ st f with
   | .fn g caps=>(Γ.call g (args Γ st c.args.toList++caps) st).bind λr=>match r.2 with
    | .more []=>.leaf r.1
    | _=>.fail
   | _=>.fail
  | .builtin .len =>
   match args Γ st c.args.toList,c.argTypes.toList with
   | [x],[t]=>lenV τ st t x
   | _,_=>.fail
  | .builtin .min =>
   match args Γ st c.args.toList with
   | [.val (.int k x),.val (.int _ y)]=>.leaf (.val (.int k (sel (ilt y x) y x)))
   | [.val (.int k x),.val (.int _ y),.val (.int _ z)]=>.leaf (.val (.int k (sel (ilt z (sel (ilt y x) y x)) z (sel (ilt y x) y x))))
   | _=>.fail
  | .builtin .max =>
   match args Γ st c.args.toList with
   | [.val (.int k x),.val (.int _ y)]=>.leaf (.val (.int k (sel (ilt x y) y x)))
   | _=>.fail
  | _=>.fail
 | _=>.fail
def after (h:List Blk):List Blk->List Blk
 | []=>h
 | .dead::l=>l
 | b::l=>h++b::l
def Hj (st:St):Res->St
 | .more l=>⟨st.t,after st.h l⟩
 | .all st'=>st'
def Ab8 (c:Call) (st:St):T (V×St) :=
 match c.callee with
 | .value f =>
  match ev Γ st f with
  | .fn g caps=>(Γ.call g (args Γ st c.args.toList++caps) st).bind λr=>.leaf (r.1,Hj st r.2)
  | _=>.fail
 | .builtin .append =>
  match args Γ st c.args.toList,c.argTypes.toList with
  | [x,y],[t,t']=>match Nat.beq t t' with
   | true=>Uw τ st t x y
   | false=>.fail
  | _,_=>.fail
 | _=>.fail
def Vo (c:Call):Bool :=
 match c.callee with
 | .value _=>true
 | .builtin .append=>true
 | _=>false
def Qt:List V->Nat->Bool
 | [],0=>true
 | .val (.bool false)::l,n+1=>Qt l n
 | _,_=>false
def OJ:List V->Nat->Bool
 | [],0=>true
 | .val (.int .i64 (.ofNat 0))::l,n+1=>OJ l n
 | _,_=>false
def XV (ty:Ty) (cs:List V):Option (Nat×V) :=
 match ty.k with
 | .arr n _=>match Nat.blt 14 n,Nat.ble n 1000000,Qt cs n with
  | true,true,true=>some (n,bV false)
  | true,true,false=>match OJ cs n with
   | true=>some (n,iV 0)
   | false=>none
  | _,_,_=>none
 | _=>none
def XS (te:Ty) (e:TypeId) (st:St) (len:Nat) (els:List V):T (V×St) :=
 match te.k,I0 τ e,Nat.beq te.size 1,Nat.beq len 1,te.zero.cells,els with
 | .sl _,some (_,e',s'),true,true,some [_],[.ref r]=>match st.h[r]? with
  | some (.row e2 s2 _ _)=>match Nat.beq e' e2,Nat.beq s' s2 with
   | true,true=>TA st e r
   | _,_=>.fail
  | _=>.fail
 | .sl _,some (_,e',s'),true,true,some [_],[.mref id i]=>(JG st id i).bind λst1=>match st1.h[st.h.length]? with
  | some (.row e2 s2 _ _)=>match Nat.beq e' e2,Nat.beq s' s2 with
   | true,true=>TA st1 e st.h.length
   | _,_=>.fail
  | _=>.fail
 | _,_,_,_,_,_=>.fail
def step (o:Oper) (st:St):T (V×St) :=
 match o.op with
 | .move x | .assign x=>NP τ st o.type (ev Γ st x)
 | .alloc t =>
  match τ[t]? with
  | some ty=>match ty.zero.cells with
   | some cs=>match XV ty cs with
    | some p=>DY st (.row t 1 p.1 λ_=>p.2) λid=>.ept id 1 0 0
    | none=>DY st (.cells cs) (.ptr · 0)
   | none=>.fail
  | none=>.fail
 | .box t x=>(upV τ st t (ev Γ st x)).bind λr=>match r.1.cells with
  | some cs=>DY r.2 (.cells cs) (.ptr · 0)
  | none=>.fail
 | .buildSlice t len parts =>
  match τ[t]? with
  | some ty=>match ty.k with
   | .sl e=>match τ[e]? with
    | some te =>
     match HK 0 (evs Γ st parts.toList) with
     | some els =>
      match Mq te.size els,Nat.beq els.length len,Nat.ble (Nat.mul len te.size) 16777216,Nat.blt 0 te.size,te.zero.cells with
      | true,true,true,true,some zc=>match Nat.beq zc.length te.size with
       | true=>DY st (.row e te.size len (Ct len els)) .ref
       | false=>.fail
      | _,_,_,_,_=>XS τ te e st len els
     | none=>.fail
    | none=>.fail
   | _=>.fail
  | none=>.fail
 | .store t a x=>match ev Γ st a with
  | .ptr id off=>match ev Γ st x with
   | .rct r k=>match st.h[r]? with
    | some (.row e s _ g)=>Pd τ ⟨kill.kills r st.t,(AQ r st.h).set r (.row e s k g)⟩ t (.ptr id off) (.ref r)
    | _=>.fail
   | xv=>(upV τ st t xv).bind λr=>Pd τ r.2 t (.ptr id off) r.1
  | av=>Pd τ st t av (ev Γ st x)
 | .makeSlice t l c=>AcD τ st t (ev Γ st l) (ev Γ st c)
 | .makeMap t none=>P9 τ st t
 | .mapUpdate t m x v=>O3 τ st t (ev Γ st m) (ev Γ st x) (ev Γ st v)
 | .insert t m x v=>O3 τ st t (ev Γ st m) (ev Γ st x) (ev Γ st v)
 | .call c=>match Vo c with
  | true=>Ab8 τ Γ c st
  | false=>keep st (Gw τ Γ o st)
 | _=>keep st (Gw τ Γ o st)
def KX {α:Type} (all:Array Oper) (st:St) (o:Oper) (run skip:T α):T α :=
 match o.guard with
 | none=>run
 | some (j,want) =>
  match all[j]? with
  | some oj=>match oj.dst with
   | some d=>match nth st.t d with
    | .val (.bool b)=>match want with
     | true=>.br b run skip
     | false=>.br b skip run
    | .val (.tuple _)=>skip
    | _=>.fail
   | none=>.fail
  | none=>.fail
def Ja (all:Array Oper) (o:Oper) (st:St):T St :=
 KX all st o ((step τ Γ o st).bind λr=>.leaf (put r.2 o.dst r.1)) (.leaf (put st o.dst A7))
def H8 (all:Array Oper):List Oper->St->T St
 | [],st=>.leaf st
 | o::l,st=>(Ja τ Γ all o st).bind (H8 all l)
def Ji:List Operand->List Nat
 | []=>[]
 | .tmp t::l=>t::Ji l
 | _::l=>Ji l
def Bn (all:Array Oper) (o:Oper):List Nat :=
 match o.guard with
 | some (j,_)=>match all[j]? with
  | some oj=>match oj.dst with
   | some d=>d::Ji o.op.operands.toList
   | none=>Ji o.op.operands.toList
  | none=>Ji o.op.operands.toList
 | none=>Ji o.op.operands.toList
def Dv (n:Nat):List Nat->Bool
 | []=>false
 | m::l=>match Nat.beq m n with
  | true=>true
  | false=>Dv n l
def C4 (rs:List Nat):Nat->List V->List V
 | _,[]=>[]
 | i,v::l=>(match Dv i rs with
  | true=>v
  | false=>.und)::C4 rs (Nat.succ i) l
def CN (all:Array Oper) (o:Oper) (st:St):T V :=
 KX all ⟨C4 (Bn all o) 0 st.t,st.h⟩ o (Gw τ Γ o ⟨C4 (Bn all o) 0 st.t,st.h⟩) (.leaf A7)
def GP (all:Array Oper):List Oper->St->T St
 | [],st=>.leaf st
 | o::l,st=>(CN τ Γ all o st).bind λv=>GP all l (put st o.dst v)
def Ij:Nat->List Oper->Bool
 | _,[]=>true
 | i,o::l=>match o.after.toList.all (λe=>match Region.binds .any e with
   | true=>Nat.blt e.on i
   | false=>true) with
  | true=>Ij (Nat.succ i) l
  | false=>false
def Nu:List Oper->Bool
 | []=>true
 | o::l=>match o.dst with
  | some d=>match l.all (λo'=>match o'.dst with
    | some d'=>match Nat.beq d d' with
     | true=>false
     | false=>true
    | none=>true) with
   | true=>Nu l
   | false=>false
  | none=>Nu l
def LJ (bf:Array Nat) (j:Nat) (rs:List Nat):Nat->List Oper->Bool
 | _,[]=>true
 | k,o::l=>match (match o.dst with
   | some d=>match Dv d rs,Nat.beq k j with
    | true,false=>match Nat.blt k j with
     | true=>Nat.testBit (bf.getD j 0) k
     | false=>Nat.testBit (bf.getD k 0) j
    | true,true=>false
    | false,_=>true
   | none=>true) with
  | true=>LJ bf j rs (Nat.succ k) l
  | false=>false
def MA (all:Array Oper) (bf:Array Nat):Nat->List Oper->Bool
 | _,[]=>true
 | j,o::l=>match LJ bf j (Bn all o) 0 all.toList with
  | true=>MA all bf (Nat.succ j) l
  | false=>false
def GG:List Oper->Nat
 | []=>0
 | o::l=>match o.op with
  | .store _ _ _=>0
  | .mapUpdate _ _ _ _ | .insert _ _ _ _=>0
  | _=>Nat.succ (GG l)
def Mv (bf:Array Nat):Nat->Nat->Bool
 | _,0=>true
 | k,n+1=>match (List.range k).all λj=>Nat.testBit (bf.getD k 0) j with
  | true=>Mv bf (Nat.succ k) n
  | false=>false
def Im (bf:Array Nat):Nat->Nat
 | 0=>0
 | k+1=>match (List.range k).all λj=>Nat.testBit (bf.getD k 0) j with
  | true=>Im bf k
  | false=>Nat.succ k
def Eg (ops:Array Oper):Nat:=match Nat.ble (Im (Region.before ops) ops.size) (GG ops.toList) with
 | true=>Im (Region.before ops) ops.size
 | false=>GG ops.toList
def AfH (o:Oper):Bool :=
 match o.op with
 | .store _ _ _ | .mapUpdate _ _ _ _ | .insert _ _ _ _ | .buildSlice _ _ _ | .makeSlice _ _ _ | .makeMap _ _ | .alloc _ | .box _ _=>true
 | .call c=>match c.callee with
  | .builtin .append=>true
  | .value _=>match τ[o.type]? with
   | some ty=>match ty.k with
    | .sl _=>true
    | .gmap _ _=>true
    | .st _=>match I0 τ o.type with
     | some _=>true
     | none=>false
    | _=>false
   | none=>false
  | _=>false
 | _=>false
def MC:List Oper->List Tmp
 | []=>[]
 | o::l=>match o.op with
  | .fieldAddr _ _ _ | .indexAddr _ _ _ | .nilCheck _=>match o.dst with
   | some d=>d::MC l
   | none=>MC l
  | _=>MC l
def Afy (ts:List Tmp) (o:Oper):Bool :=
 match o.op with
 | .call c=>match c.callee with
  | .value _=>c.args.toList.any λx=>match x with
   | .tmp t=>Dv t ts
   | _=>false
  | _=>false
 | _=>false
def OU:List Oper->Bool
 | []=>false
 | o::l=>match o.op with
  | .extract _ _=>match τ[o.type]? with
   | some ty=>match ty.k with
    | .sl _=>true
    | .gmap _ _=>true
    | .st _=>match I0 τ o.type with
     | some _=>true
     | none=>OU l
    | _=>OU l
   | none=>OU l
  | _=>OU l
def Ae9 (o:Oper):Bool :=
 match o.op with
 | .call c=>match c.callee,τ[o.type]? with
  | .value _,some ty=>match ty.k,ty.zero with
   | .other,.und=>true
   | _,_=>false
  | _,_=>false
 | _=>false
def VM (ts:List Tmp) (b:Bool):List Oper->Nat
 | []=>0
 | o::l=>match AfH τ o || Afy ts o || (b && Ae9 τ o) with
  | true=>0
  | false=>Nat.succ (VM ts b l)
def Dp (l:List Oper):Nat:=VM τ (MC l) (OU τ l) l
def Dx (o:Oper):Bool :=
 match o.guard with
 | some _=>false
 | none=>match o.op with
  | .move _ | .fieldAddr _ _ _ | .indexAddr _ _ _ | .load _ _ | .nilCheck _ | .binOp _ _ _ _ _ | .build _ _=>match o.dst with
   | some _=>true
   | none=>false
  | .call c=>match c.callee,o.dst with
   | .builtin .len,some _=>true
   | _,_=>false
  | _=>false
def O6 (bf:Array Nat) (m:Nat):Nat->List Oper->List Nat
 | _,[]=>[]
 | i,o::l=>match Nat.ble m i,Dx o,(List.range i).all λj=>Nat.testBit (bf.getD i 0) j with
  | true,true,false=>i::O6 bf m (Nat.succ i) l
  | _,_,_=>O6 bf m (Nat.succ i) l
def LX (bf:Array Nat) (m:Nat):List Nat->List Nat->List Nat
 | _,[]=>[]
 | ks,i::l=>match (List.range i).all λj=>!Nat.testBit (bf.getD i 0) j || (Nat.blt j m || Dv j ks) with
  | true=>i::LX bf m (i::ks) l
  | false=>LX bf m ks l
def Mr (bf:Array Nat) (m n:Nat) (ls:List Nat):Nat->List Oper->List Nat
 | _,[]=>[]
 | i,o::l=>match Dx o,(List.range n).all λj=>Nat.blt j m || Dv j ls || Nat.testBit (bf.getD j 0) i with
  | true,false=>i::Mr bf m n ls (Nat.succ i) l
  | _,_=>Mr bf m n ls (Nat.succ i) l
def Ig (all:Array Oper) (bf:Array Nat) (m:Nat) (lts:List Nat) (q:Nat) (oq:Oper):Nat->List Oper->Bool
 | _,[]=>true
 | j,o::l=>match Nat.beq j q || (Nat.blt j m && !Dv j lts) || Nat.testBit (bf.getD q 0) j || ((o.after.toList.any (λe=>Region.binds .any e && Nat.beq e.on q) || Oper.apart all oq o) && (match o.dst with
    | some d=>!(oq.looksAt all).contains d || (!Dv j lts && Nat.testBit (bf.getD j 0) q)
    | none=>true)) with
  | true=>Ig all bf m lts q oq (Nat.succ j) l
  | false=>false
def DZ (o:Oper):Bool :=
 match o.guard,o.dst with
 | none,some _=>match o.op with
  | .alloc t=>match τ[t]? with
   | some ty=>match ty.zero.cells with
    | some cs=>match XV ty cs with
     | some _=>false
     | none=>true
    | none=>false
   | none=>false
  | .buildSlice t _ _=>match τ[t]? with
   | some ts=>match ts.k with
    | .sl e=>match τ[e]? with
     | some te=>match te.k with
      | .sl _=>false
      | _=>true
     | none=>false
    | _=>false
   | none=>false
  | _=>false
 | _,_=>false
def Fc (o:Oper):Bool :=
 match o.guard,o.dst with
 | none,some _=>match o.op with
  | .extract _ _=>true
  | _=>false
 | _,_=>false
def GF (o:Oper):Bool:=DZ τ o || Fc o
def Ey (vs:List Nat):List Nat->List Nat
 | []=>[]
 | q::l=>match Dv q vs with
  | true=>Ey vs l
  | false=>q::Ey vs l
def Wz (bf:Array Nat):List Nat->Bool
 | []=>true
 | i::l=>l.all (λj=>Nat.testBit (bf.getD j 0) i) && Wz bf l
def YS (ops:Array Oper) (bf:Array Nat) (c:List Nat):List Nat->Nat
 | []=>ops.size
 | i::l=>match (match ops[i]? with
   | some o=>DZ τ o
   | none=>false) && Wz bf (Ey [i] c) with
  | true=>i
  | false=>YS ops bf c l
def Acl (bf:Array Nat) (p:Nat):List Nat->List Nat
 | []=>[p]
 | i::l=>match Nat.testBit (bf.getD i 0) p with
  | true=>p::i::l
  | false=>i::Acl bf p l
def J4 (ops:Array Oper) (bf:Array Nat) (c:List Nat):List Nat->List Nat
 | []=>[]
 | i::l=>match (match ops[i]? with
   | some o=>GF τ o
   | none=>false) && !(c.all λj=>Nat.beq i j || (Nat.testBit (bf.getD i 0) j || Nat.testBit (bf.getD j 0) i)) with
  | true=>i::J4 ops bf c l
  | false=>J4 ops bf c l
def Acm (bf:Array Nat):List Nat->List Nat->List Nat
 | [],c=>c
 | p::ps,c=>Acm bf ps (Acl bf p c)
def Acu (ops:Array Oper) (bf:Array Nat) (c:List Nat) (p:Nat):List Nat×List Nat :=
 match Nat.blt p ops.size with
 | true=>([p],Acl bf p (Ey [p] c))
 | false=>(J4 τ ops bf c c,Acm bf (J4 τ ops bf c c) (Ey (J4 τ ops bf c c) c))
def Acs (ops:Array Oper) (bf:Array Nat) (c:List Nat):List Nat×List Nat :=
 match Wz bf c with
 | true=>([],c)
 | false=>Acu τ ops bf c (YS τ ops bf c c)
def Lb (bf:Array Nat) (ps:List Nat):List Nat->Bool
 | []=>true
 | i::l=>(l.all (λj=>Dv j ps || Nat.testBit (bf.getD j 0) i) && (i::l).all λj=>!Nat.testBit (bf.getD i 0) j) && (!Dv i l && Lb bf ps l)
def AlQ (ops:List Oper):Bool:=ops.all λo=>match o.op with
 | .select _ _=>false
 | _=>true
def FA:Nat->List Nat->Bool
 | _,[]=>true
 | m,q::l=>match Nat.ble m q with
  | true=>FA (Nat.succ q) l
  | false=>false
def TB (ops:Array Oper) (m:Nat) (es ls ps ord:List Nat):Bool :=
 (Lb (Region.before ops) ps ord && ord.all λi=>Nat.ble m i && Nat.blt i ops.size && !Dv i (es++ls) && (List.range m).all λj=>Dv j (es++ls) || Nat.testBit ((Region.before ops).getD i 0) j) &&
 ((List.range ops.size).all λi=>Nat.blt i m || Dv i (es++ls) || Dv i ord) && (ps.all λp=>(match ops[p]? with
   | some o=>GF τ o
   | none=>false) && ps.all λq=>!Nat.testBit ((Region.before ops).getD p 0) q) && (ls.all λi=>(List.range i).all λj=>!Nat.testBit ((Region.before ops).getD i 0) j || (Nat.blt j m || Dv j (es++ls))) &&
 AlQ ops.toList && FA 0 (es++ls) && FA m ls && es.all (λq=>Nat.blt q m) && Nat.ble m ops.size && (es++ls).all λq=>match ops[q]? with
  | some oq=>Dx oq && Ig ops (Region.before ops) m (es++ls) q oq 0 ops.toList && (match oq.dst with
   | some d=>!(oq.looksAt ops).contains d
   | none=>false)
  | none=>false
def Cs (bf:Array Nat) (i:Nat):List Nat->List Nat
 | []=>[]
 | q::l=>match Nat.testBit (bf.getD i 0) q with
  | true=>Cs bf i l
  | false=>q::Cs bf i l
def Tg:V->V->T Unit
 | .ptr a b,.ptr c d=>match Nat.beq a c,Nat.beq b d with
  | true,true=>.leaf ()
  | _,_=>.fail
 | .ref a,.ref b=>match Nat.beq a b with
  | true=>.leaf ()
  | false=>.fail
 | .jref a,.jref b=>match Nat.beq a b with
  | true=>.leaf ()
  | false=>.fail
 | .mref a i,.mref b i'=>match Nat.beq a b with
  | true=>.br (Fy i i') (.leaf ()) .fail
  | false=>.fail
 | .mmap a i,.mmap b i'=>match Nat.beq a b with
  | true=>.br (Fy i i') (.leaf ()) .fail
  | false=>.fail
 | .ept a s i o,.ept b s' i' o'=>match Nat.beq a b,Nat.beq s s',Nat.beq o o' with
  | true,true,true=>.br (Fy i i') (.leaf ()) .fail
  | _,_,_=>.fail
 | .jept a s i o,.jept b s' i' o'=>match Nat.beq a b,Nat.beq s s',Nat.beq o o' with
  | true,true,true=>.br (Fy i i') (.leaf ()) .fail
  | _,_,_=>.fail
 | .val (.int k a),.val (.int k' b)=>match Xt k k' with
  | true=>.br (ieq a b) (.leaf ()) .fail
  | false=>.fail
 | .val (.bool a),.val (.bool b)=>.br (Kr a b) (.leaf ()) .fail
 | .str a,.str b=>.br (seq a b) (.leaf ()) .fail
 | .nilS,.nilS=>.leaf ()
 | _,_=>.fail
def WL:List V->List V->T Unit
 | [],[]=>.leaf ()
 | a::as0,b::bs=>(Tg a b).bind λ_=>WL as0 bs
 | _,_=>.fail
def Pl:V->V->T Unit
 | .agg as0,.agg bs=>WL as0 bs
 | a,b=>Tg a b
def JP (all:Array Oper):List Nat->St->T St
 | [],st=>.leaf st
 | q::l,st=>match all[q]? with
  | some o=>(CN τ Γ all o st).bind λv=>JP all l (put st o.dst v)
  | none=>.fail
def Iz (all:Array Oper):List Nat->St->T Unit
 | [],_=>.leaf ()
 | q::l,st=>match all[q]? with
  | some o=>match o.dst with
   | some d=>(CN τ Γ all o st).bind λv=>(Pl v (nth st.t d)).bind λ_=>Iz all l st
   | none=>.fail
  | none=>.fail
def Abj:V->Bool
 | .sl _ _ _=>true
 | .slr _ _ _ _=>true
 | .pp _=>true
 | _=>false
def AgE:V->Bool
 | .agg cs=>cs.any Abj
 | v=>Abj v
def GK (all:Array Oper) (st:St):List Nat->List Nat
 | []=>[]
 | q::l=>match all[q]? with
  | some o=>match o.dst with
   | some d=>match AgE (nth st.t d) with
    | true=>q::GK all st l
    | false=>GK all st l
   | none=>GK all st l
  | none=>GK all st l
def AbF (st:St) (y:Operand):Option (Option Nat) :=
 match ev Γ st y with
 | .ptr id _=>match st.h[id]? with
  | some (.cells _)=>some (some id)
  | _=>none
 | .ept id _ _ _=>match st.h[id]? with
  | some (.row _ _ _ _)=>some (some id)
  | _=>none
 | .pp (.agg (_::_))=>some none
 | .pp u=>match Jm u with
  | true=>some none
  | false=>none
 | .jept id _ _ _=>match st.h[id]? with
  | some (.jag _)=>some (some id)
  | _=>none
 | _=>none
def L6 (all:Array Oper) (st:St) (q:Nat):Bool :=
 match all[q]? with
 | some oq=>match oq.op with
  | .move _=>true
  | .build _ _=>true
  | .indexAddr _ _ _=>true
  | .fieldAddr s _ f=>match FF τ s f (.ptr 0 0) with
   | .leaf _=>true
   | _=>false
  | .nilCheck x=>match ev Γ st x with
   | .pp _=>true
   | _=>false
  | .binOp .sub _ x y _=>match ev Γ st x,ev Γ st y with
   | .val (.int _ _),.val (.int _ _)=>true
   | _,_=>false
  | .call c=>match c.callee,c.args.toList,c.argTypes.toList with
   | .builtin .len,[x],[_]=>match ev Γ st x with
    | .sl _ _ _=>true
    | _=>false
   | _,_,_=>false
  | .load _ y=>match AbF Γ st y with
   | some _=>true
   | none=>false
  | _=>false
 | none=>false
def VJ (all:Array Oper) (o:Oper) (st:St) (q:Nat):Bool :=
 match o.op with
 | .store _ x _=>match ev Γ st x with
  | .ptr id _=>match st.h[id]? with
   | some (.cells _)=>match all[q]? with
    | some oq=>match oq.op with
     | .load _ y=>match AbF Γ st y with
      | some (some id')=>match Nat.beq id id' with
       | true=>false
       | false=>true
      | some none=>true
      | none=>false
     | _=>L6 τ Γ all st q
    | none=>false
   | _=>false
  | _=>false
 | _=>false
def VK (all:Array Oper) (o:Oper) (st:St) (q:Nat):Bool :=
 match o.op with
 | .move _ | .assign _ | .build _ _=>true
 | .call _=>L6 τ Γ all st q
 | _=>match DZ τ o with
  | true=>L6 τ Γ all st q
  | false=>VJ τ Γ all o st q
def Adf (o:Oper) (st:St):List Nat->T Unit
 | []=>.leaf ()
 | _::_=>match o.op with
  | .call c=>match c.callee with
   | .value f=>match ev Γ st f with
    | .fn g caps=>(Γ.call g (args Γ st c.args.toList++caps) st).bind λr=>allT (Adc r.2)
    | _=>.fail
   | _=>.fail
  | _=>.leaf ()
def Xx (all:Array Oper) (ql:List Nat) (p:Nat) (st:St):T Unit :=
 match all[p]? with
 | some o=>match o.dst with
  | some d=>match nth st.t d with
   | .und=>(allT (Fc o || ql.all (L6 τ Γ all st))).bind λ_=>(allT (Nat.blt d st.t.length)).bind λ_=>(step τ Γ o st).bind λ_=>.leaf ()
   | _=>.fail
  | none=>.fail
 | none=>.fail
def OC (all:Array Oper) (bf:Array Nat) (ql il:List Nat):List Nat->St->T Unit
 | [],_=>.leaf ()
 | p::ps,st=>(match Dv p il && il.all λj=>!Nat.testBit (bf.getD p 0) j with
   | true=>Xx τ Γ all ql p st
   | false=>.leaf ()).bind λ_=>OC all bf ql il ps st
def Jr (all:Array Oper) (bf:Array Nat) (lts vs ps:List Nat):List Nat->List Nat->St->T St
 | _,[],st=>.leaf st
 | ql,i::l,st=>match all[i]? with
  | some o=>(OC τ Γ all bf ql (i::l) ps st).bind λ_=>(allT ((Cs bf i vs).all (VK τ Γ all o st))).bind λ_=>(Adf Γ o st (Cs bf i vs)).bind λ_=>(Ja τ Γ all o st).bind λst1=>(Iz τ Γ all (Cs bf i lts) st1).bind λ_=>Jr all bf lts vs ps (Cs bf i ql) l st1
  | none=>.fail
def Ef (ops:Array Oper):Bool :=
 match Ij 0 ops.toList,Nu ops.toList with
 | true,true=>MA ops (Region.before ops) 0 ops.toList
 | _,_=>false
end
def QA (ops:Array Oper) (p:Nat) (st:St):St :=
 match ops[p]? with
 | some o=>put st o.dst .und
 | none=>st
def IR (ops:Array Oper):List Nat->St->St
 | [],st=>st
 | p::ps,st=>IR ops ps (QA ops p st)
def LV (τ:List Ty) (Γ:Cx0) (ops:Array Oper) (m:Nat) (lts ps ord vs:List Nat) (st:St):T (Ex×St) :=
 (allT (vs.isEmpty || (List.range m).all λi=>Dv i lts)).bind λ_=>(Iz τ Γ ops (Ey vs lts) st).bind λ_ =>
  (Jr τ Γ ops (Region.before ops) (Ey vs lts) vs ps lts ord (IR ops ps st)).bind λst=>.leaf (.nm,st)
def Hw (τ:List Ty) (Γ:Cx0) (ops:Array Oper) (m:Nat) (es ls:List Nat) (po:List Nat×List Nat) (st:St):T (Ex×St) :=
 match TB τ ops m es ls po.1 po.2 with
 | true=>(GP τ Γ ops (ops.toList.take m) st).bind λst=>(JP τ Γ ops ls st).bind λst=>LV τ Γ ops m (es++ls) po.1 po.2 (GK ops st (es++ls)) st
 | false=>.fail
def EN (τ:List Ty) (Γ:Cx0) (ops:Array Oper) (m:Nat) (es ls:List Nat) (st:St):T (Ex×St) :=
 Hw τ Γ ops m es ls (Acs τ ops (Region.before ops) (Ey (es++ls) ((List.range ops.size).drop m))) st
def TW (bf:Array Nat) (n:Nat):Nat->List Oper->List Nat
 | _,[]=>[]
 | i,o::l=>match Dx o,(List.range n).all λj=>Nat.beq j i || Nat.testBit (bf.getD i 0) j || Nat.testBit (bf.getD j 0) i with
  | true,false=>i::TW bf n (Nat.succ i) l
  | _,_=>TW bf n (Nat.succ i) l
def PR (τ:List Ty) (ops:Array Oper) (m:Nat) (bf:Array Nat) (es ls:List Nat) (Γ:Cx0) (po:List Nat×List Nat) (st:St):T (Ex×St) :=
 match TB τ ops m es ls po.1 po.2 with
 | true=>(GP τ Γ ops (ops.toList.take m) st).bind λst1=>(JP τ Γ ops ls st1).bind λst2 =>
  match (GK ops st2 (es++ls)).isEmpty || (List.range m).all λi=>Dv i (es++ls) with
  | true=>LV τ Γ ops m (es++ls) po.1 po.2 (GK ops st2 (es++ls)) st2
  | false=>EN τ Γ ops 0 [] (LX bf 0 [] (TW bf ops.size 0 ops.toList)) st
 | false=>.fail
def PQ (τ:List Ty) (ops:Array Oper) (m:Nat) (bf:Array Nat) (es ls:List Nat) (Γ:Cx0) (st:St):T (Ex×St) :=
 PR τ ops m bf es ls Γ (Acs τ ops (Region.before ops) (Ey (es++ls) ((List.range ops.size).drop m))) st
def Kb (τ:List Ty) (ops:Array Oper) (m:Nat) (bf:Array Nat) (ls:List Nat) (Γ:Cx0) (st:St):T (Ex×St) :=
 PQ τ ops m bf (Mr bf m ops.size ls 0 (ops.toList.take m)) ls Γ st
def Jp (o:Oper):Bool :=
 match o.op with
 | .assign _ | .pick _ _ _ | .unOp _ _ _=>true
 | _=>Dx { o with guard:=none }
def UB:Nat->List Oper->Option Nat
 | _,[]=>none
 | i,o::l=>match o.op with
  | .store _ _ _=>some i
  | _=>UB (Nat.succ i) l
def QN (s:Nat):Nat->List Oper->Bool
 | _,[]=>true
 | i,o::l=>match Nat.beq i s || Jp o with
  | true=>QN s (Nat.succ i) l
  | false=>false
def P4 (ops:Array Oper):Option Nat :=
 match UB 0 ops.toList with
 | some s=>match QN s 0 ops.toList with
  | true=>some s
  | false=>none
 | none=>none
def JY (rs:List Nat):List Oper->Bool
 | []=>true
 | o::l=>match o.dst with
  | some d=>match Dv d rs with
   | true=>false
   | false=>JY rs l
  | none=>JY rs l
def LC (τ:List Ty) (Γ:Cx0) (all:Array Oper) (s:Nat):Nat->List Oper->St->T St
 | _,[],st=>.leaf st
 | i,o::l,st=>match Nat.beq i s with
  | true=>LC τ Γ all s (Nat.succ i) l (put st o.dst A7)
  | false=>(CN τ Γ all o st).bind λv=>LC τ Γ all s (Nat.succ i) l (put st o.dst v)
def FT (τ:List Ty) (Γ:Cx0) (ops:Array Oper) (s:Nat) (st:St):T (Ex×St) :=
 match ops[s]? with
 | some o=>match o.op,o.guard,o.dst with
  | .store t x y,none,none=>match ev Γ st x,JY (Bn ops o) (ops.toList.drop (Nat.succ s)) with
   | .ptr id _,true=>(LC τ Γ ops s 0 ops.toList ⟨st.t,st.h.set id .dead⟩).bind λst1 =>
    match ev Γ ⟨C4 (Bn ops o) 0 st1.t,[]⟩ x,st.h[id]?,(ev Γ ⟨C4 (Bn ops o) 0 st1.t,[]⟩ y).cells,τ[t]? with
    | .ptr id' off,some (.cells old),some cs,some ty=>match Nat.beq id' id,Nat.beq cs.length ty.size,Nat.ble (Nat.add off cs.length) old.length with
     | true,true,true=>.leaf (.nm,⟨st1.t,st.h.set id (.cells (CY old off cs))⟩)
     | _,_,_=>.fail
    | _,_,_,_=>.fail
   | _,_=>.fail
  | _,_,_=>.fail
 | none=>.fail
section
variable (τ:List Ty) (Γ:Cx)
def A8:Code->Nat->St->T (Ex×St)
 | .skip,_,st=>.leaf (.nm,st)
 | .region _ ops draw,_,st=>match draw with
  | false=>(H8 τ Γ.base ops ops.toList st).bind λst=>.leaf (.nm,st)
  | true=>match Ef ops with
   | true=>match Nat.beq (Dp τ ops.toList) (GG ops.toList) with
    | true=>match Mv (Region.before ops) (Eg ops) (Nat.sub ops.size (Eg ops)) with
     | true=>(GP τ Γ.base ops (ops.toList.take (Eg ops)) st).bind λst=>(H8 τ Γ.base ops (ops.toList.drop (Eg ops)) st).bind λst=>.leaf (.nm,st)
     | false=>match P4 ops with
      | some s=>FT τ Γ.base ops s st
      | none=>Kb τ ops (Dp τ ops.toList) (Region.before ops) (LX (Region.before ops) (Dp τ ops.toList) [] (O6 (Region.before ops) (Dp τ ops.toList) 0 ops.toList)) Γ.base st
    | false=>Kb τ ops (Dp τ ops.toList) (Region.before ops) (LX (Region.before ops) (Dp τ ops.toList) [] (O6 (Region.before ops) (Dp τ ops.toList) 0 ops.toList)) Γ.base st
   | false=>.fail
 | .seq a b,id,st=>(A8 a id st).bind λr =>
  match r.1 with
  | .nm=>A8 b id r.2
  | .ex j=>.leaf (.ex j,r.2)
  | .rt=>.leaf (.rt,r.2)
 | .cond c x y,id,st =>
  match ev Γ.base st c with
  | .val (.bool b)=>.br b (A8 x id st) (A8 y id st)
  | _=>.fail
 | .block i c,_,st=>(A8 c i st).bind λr =>
  match r.1 with
  | .nm=>.leaf (.nm,r.2)
  | .ex j=>match Nat.beq j i with
   | true=>.leaf (.nm,r.2)
   | false=>.leaf (.ex j,r.2)
  | .rt=>.leaf (.rt,r.2)
 | .loop c,id,st=>Γ.loop id (λst=>A8 c id st) st
 | .exit i,_,st=>.leaf (.ex i,st)
 | .ret,_,st=>.leaf (.rt,st)
 | _,_,_=>.fail
def Aix (st:St):ResultVar->Option V
 | .tmp t=>some (nth st.t t)
 | .cell a t=>match nth st.t a with
  | .ptr id off=>match st.h[id]? with
   | some (.cells cs)=>HZ τ t cs off
   | _=>none
  | _=>none
def ZN (st:St):List ResultVar->Option (List V)
 | []=>some []
 | r::l=>match Aix τ st r,ZN st l with
  | some a,some b=>some (a::b)
  | _,_=>none
def DI (fn:Func) (st:St):Option V :=
 match ZN τ st fn.results.toList with
 | some [v]=>some v
 | some vs=>some (.tup vs)
 | none=>none
def I4:V->List Nat
 | .agg cs=>refs cs
 | .tup cs=>refs cs
 | .fn _ cs=>refs cs
 | .ref id=>[id]
 | .rct id _=>[id]
 | .jref id=>[id]
 | _=>[]
 where refs:List V->List Nat
 | []=>[]
 | v::vs=>I4 v++refs vs
def Es (id:Nat):List Nat->Nat->Option Nat
 | [],_=>none
 | k::l,i=>match Nat.beq k id with
  | true=>some i
  | false=>Es id l (Nat.succ i)
def P1 (ids:List Nat):V->V
 | .agg cs=>.agg (packs cs)
 | .tup cs=>.tup (packs cs)
 | .fn f cs=>.fn f (packs cs)
 | .ref id=>match Es id ids 0 with
  | some k=>.ref k
  | none=>.und
 | .jref id=>match Es id ids 0 with
  | some k=>.jref k
  | none=>.und
 | .ptr _ _=>.und
 | .ept _ _ _ _=>.und
 | .rct id n=>match Es id ids 0 with
  | some k=>.rct k n
  | none=>.und
 | .jept _ _ _ _=>.und
 | .mref _ _=>.und
 | .mmap _ _=>.und
 | .mept _ _ _ _ _=>.und
 | v=>v
 where packs:List V->List V
 | []=>[]
 | v::vs=>P1 ids v::packs vs
def Vb (h:List Blk):List Nat->Option (List Blk)
 | []=>some []
 | id::l=>match h[id]?,Vb h l with
  | some (.row e s n g),some bs=>some (.row e s n g::bs)
  | some (.jag j),some bs=>some (.jag j::bs)
  | _,_=>none
def GU:List Nat->Bool
 | []=>true
 | k::l=>match Dv k l with
  | true=>false
  | false=>GU l
def ZR (v:V) (h:List Blk):Option (V×List Blk) :=
 match GU (I4 v),Vb h (I4 v) with
 | true,some hr=>some (P1 (I4 v) v,hr)
 | _,_=>none
def AM (t:T (V×List Blk)):T (V×List Blk):=t.bind λp=>T.ofOpt (ZR p.1 p.2)
def Wi (F:List V->T (V×List Blk)) (vs:List V) (h:List Blk):T (V×List Blk) :=
 match Dn.lends h vs with
 | none=>.fail
 | some vs'=>(F vs').bind λp =>
  match free.frees vs with
  | true=>.leaf (shift h.length p.1,p.2)
  | false=>match N1 p.1 with
   | false=>.fail
   | true=>match p.2 with
    | []=>.leaf (shift h.length p.1,[])
    | b::l=>.br (Cf (b::l)) (.leaf (shift h.length p.1,b::l)) .fail
def Aee (F:List V->T (V×List Blk)) (vs:List V) (h:List Blk):T (V×List Blk) :=
 match Xu h with
 | false=>Wi F vs h
 | true=>match free.frees vs with
  | true=>Wi F vs h
  | false=>.br (BB h) (Wi F vs h) .fail
def Jy {α:Type} (f:Nat):List (Nat×α)->Option α
 | []=>none
 | (k,x)::l=>match Nat.beq k f with
   | true=>some x
   | false=>Jy f l
def AgZ (t:T (V×List Blk)):T (V×Res):=t.bind λp=>.leaf (p.1,.more p.2)
def A9 (tbl:List (Nat×(List V->T (V×List Blk)))) (f:FuncId) (vs:List V) (st:St):T (V×Res) :=
 match Jy f tbl with
 | some F=>AgZ (Aee F vs st.h)
 | none=>.fail
def F6:Nat->List V
 | 0=>[]
 | n+1=>A7::F6 n
def Au (fn:Func) (vs:List V) (h:List Blk):T (V×List Blk) :=
 match fn.body with
 | some c=>(A8 τ Γ c 0 ⟨vs++F6 (Nat.sub fn.ntmps vs.length),h⟩).bind λr =>
  match r.1 with
  | .ex _=>.fail
  | .nm=>match DI τ fn r.2 with
   | some v=>.leaf (v,r.2.h)
   | none=>.fail
  | .rt=>match DI τ fn r.2 with
   | some v=>.leaf (v,r.2.h)
   | none=>.fail
 | none=>.fail
end
def UX:List V:=[.tup []]
def Ma:List V->Bool
 | [.tup []]=>true
 | _=>false
def Amp (τ:List Ty) (Γ:Cx) (fn:Func) (vs:List V) (st:St):T (V×Res) :=
 (Au τ Γ fn vs (st.h++[.saved st.t])).bind λp=>match p.2[st.h.length]? with
  | some (.saved t)=>match Ma t with
   | false=>.leaf (p.1,.all ⟨t,p.2.set st.h.length .dead⟩)
   | true=>.fail
  | _=>.fail
def YC (h:List Blk):V->T (Nat×Nat×Nat×(Nat->V))
 | .ref id=>match h[id]? with
  | some (.row e s n g)=>.leaf (e,s,n,g)
  | _=>.fail
 | .mref id i=>match h[id]? with
  | some (.jag j)=>.br (j.live i) (.leaf (j.e',j.s',j.len i,j.mem i)) .fail
  | _=>.fail
 | _=>.fail
def GQ:List Blk->List Blk
 | []=>[]
 | _::l=>.saved UX::GQ l
def Acp (st:St) (q:Nat) (p:Nat×Nat×Nat×(Nat->V)):St:=⟨st.t.set q (.ref st.h.length),GQ st.h++[.xrow true p.1 p.2.1 p.2.2.1 p.2.2.2]⟩
def MB:List Blk->List Blk->Bool
 | [],_=>true
 | _::l,.saved vs::h=>match Ma vs with
  | true=>MB l h
  | false=>false
 | _::_,_=>false
def Ade (n:Nat) (v:V):V :=
 match N1 v,QG n v with
 | true,true=>v
 | _,_=>.und
def TG (n:Nat):List V->List V
 | []=>[]
 | v::l=>Ade n v::TG n l
def Lc (want:Nat):Code->Nat->Option Code
 | .seq a b,id=>match Lc want a id with
  | some c=>some c
  | none=>Lc want b id
 | .cond _ a b,id=>match Lc want a id with
  | some c=>some c
  | none=>Lc want b id
 | .block i c,_=>Lc want c i
 | .loop c,id=>match Nat.beq id want with
  | true=>some c
  | false=>Lc want c id
 | _,_=>none
def A1 (fn:Func) (want:Nat):Code :=
 match fn.body with
 | some c=>match Lc want c 0 with
  | some c=>c
  | none=>.skip
 | none=>.skip
abbrev A3:=T (V×List Blk)
abbrev AD:=List (Nat×(List V->A3))
abbrev Ac:Nat->V:=λ_=>.und
abbrev Ai:=Nat->Option Value
abbrev LT:=Nat->(St->T (Ex×St))->St->T (Ex×St)
abbrev PT:=(St->T (Ex×St))->St->Bool
abbrev nV (n:Nat):V:=iV (Int.ofNat n)
def jsV:Nat->Nat->(Nat->V)->List (Nat×V)->List V
 | 0,_,_,_=>[]
 | n+1,i,j,[]=>j i::jsV n (Nat.succ i) j []
 | n+1,i,j,(k,v)::l=>match Nat.beq i k with
  | true=>v::jsV n (Nat.succ i) j l
  | false=>j i::jsV n (Nat.succ i) j ((k,v)::l)
def bmK:Nat->Nat->List Nat->List Bool
 | 0,_,_=>[]
 | n+1,i,[]=>false::bmK n (Nat.succ i) []
 | n+1,i,k::l=>match Nat.beq i k with
  | true=>true::bmK n (Nat.succ i) l
  | false=>false::bmK n (Nat.succ i) (k::l)
def bbK:Nat->Nat->List Bool
 | 0,_=>[]
 | n+1,v=>Nat.beq (v%2) 1::bbK n (v/2)
def lkU (m:Nat):List (Nat×V)->Nat->V
 | [],i=>match Nat.beq ((m>>>i)%2) 1 with
  | true=>.und
  | false=>A7
 | (k,v)::l,i=>match Nat.beq i k with
   | true=>v
   | false=>lkU m l i
def lkV (d:V):List (Nat×V)->Nat->V
 | [],_=>d
 | (k,v)::l,i=>match Nat.beq i k with
   | true=>v
   | false=>lkV d l i
end Go.Sy
