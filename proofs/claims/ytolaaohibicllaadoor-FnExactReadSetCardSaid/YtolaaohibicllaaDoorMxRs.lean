/-
  A small machine over trees stands to the machine of the model as said; what Go functions of this part compute there.
-/
import GoSem.Core.Code
import GoSem.Op.IntArith
import Derived.Tactics
import Derived.Laws.Cells
import Derived.Laws.World
import Derived.Laws.Append
import Derived.Laws.Tables
import Derived.Laws.MakeOwn
import Derived.Laws.BytesString
import Derived.Laws.AppendOwn
import Derived.Below
import Derived.Laws.StructEq
set_option maxHeartbeats 16000000
set_option linter.unusedSimpArgs false
set_option linter.unusedVariables false
namespace Mx
theorem aa:type_of% @Option.map_eq_some_iff:=@Option.map_eq_some_iff
theorem ab:type_of% @List.take_of_length_le:=@List.take_of_length_le
theorem ae:type_of% @Bool.and_eq_true:=@Bool.and_eq_true
theorem af:type_of% @Option.some.injEq:=@Option.some.injEq
theorem ah:type_of% @Prod.mk.injEq:=@Prod.mk.injEq
theorem al:type_of% @List.length_cons:=@List.length_cons
theorem ao:type_of% @List.all_eq_true:=@List.all_eq_true
theorem ax:type_of% @Array.getD_eq_getD_getElem?:=@Array.getD_eq_getD_getElem?
theorem aC:type_of% @List.getElem?_take:=@List.getElem?_take
theorem aD:type_of% @Bool.false_eq_true:=@Bool.false_eq_true
theorem aE:type_of% @Nat.mul_le_mul_right:=@Nat.mul_le_mul_right
theorem aF:type_of% @List.getElem?_append:=@List.getElem?_append
theorem aI:type_of% @List.map_cons:=@List.map_cons
theorem aL:type_of% @List.getElem?_drop:=@List.getElem?_drop
theorem aU:type_of% @List.mem_cons_of_mem:=@List.mem_cons_of_mem
theorem aW:type_of% @List.drop_eq_getElem_cons:=@List.drop_eq_getElem_cons
theorem aZ:type_of% @List.getElem?_map:=@List.getElem?_map
theorem a6:type_of% @List.length_nil:=@List.length_nil
theorem a_:type_of% @List.mem_flatMap:=@List.mem_flatMap
theorem ba:type_of% @List.append_assoc:=@List.append_assoc
theorem bd:type_of% @List.mem_cons_self:=@List.mem_cons_self
theorem bn:type_of% @List.flatMap_cons:=@List.flatMap_cons
theorem bt:type_of% @List.length_append:=@List.length_append
theorem bu:type_of% @List.mem_of_getElem?:=@List.mem_of_getElem?
theorem bA:type_of% @Option.map_some:=@Option.map_some
theorem bC:type_of% @List.map_nil:=@List.map_nil
theorem bF:type_of% @Option.getD_some:=@Option.getD_some
theorem bG:type_of% @List.getElem?_eq_none:=@List.getElem?_eq_none
theorem bN:type_of% @List.map_append:=@List.map_append
theorem cF:type_of% @List.getElem?_eq_getElem:=@List.getElem?_eq_getElem
theorem cV:type_of% @Int.toNat_natCast:=@Int.toNat_natCast
theorem df:type_of% @List.take_append_drop:=@List.take_append_drop
theorem dA:type_of% @List.length_take:=@List.length_take
theorem dS:type_of% @List.range_succ:=@List.range_succ
theorem dT:type_of% @List.mem_append:=@List.mem_append
theorem fW:type_of% @List.drop_eq_nil_of_le:=@List.drop_eq_nil_of_le
theorem gj:type_of% @List.foldl_cons:=@List.foldl_cons
theorem gk:type_of% @List.append_nil:=@List.append_nil
theorem iZ:type_of% @List.mem_map_of_mem:=@List.mem_map_of_mem
theorem lY:type_of% @List.getElem_mem:=@List.getElem_mem
theorem nL:type_of% @List.nil_append:=@List.nil_append
theorem pN:type_of% @List.mem_map:=@List.mem_map
theorem qg:type_of% @List.mem_singleton:=@List.mem_singleton
end Mx
namespace Mx
open Go (IntKind BinOp)
inductive T where
 |int (k:IntKind) (n:Int)
 |bool (b:Bool)
 |str (s:ByteArray)
 |cA (sz:Nat)
 |sl (own:Bool) (sz:Nat) (rows:List (List T))
 |row (id ar off len:Nat)
 |ptr (id ar i j:Nat)
 |vp (cells:List T) (j:Nat)
 |fn (f:Nat) (caps:List T)
 deriving Inhabited
inductive V where
 |c (t:T)
 |a (ts:List T)
 |fj (vs:List V)
 |undef
 deriving Inhabited
structure Ob where
 ar:Nat
 sz:Nat
 w:Bool
 bx:Bool
 rows:List (List T)
def get{α:Type}:List (Nat×α)→Nat→Option α
 |[],_=>none
 |(k,v)::l,x=>if x=k then some v else get l x
def keep{α:Type}(ks:List Nat)(l:List (Nat×α)):List (Nat×α):=ks.filterMap fun k=>(get l k).map fun v=>(k,v)
def aS{α β:Type}(f:α→Option β):List α→Option (List β)
 |[]=>some []
 |x::xs=>match f x,aS f xs with|some y,some ys=>some (y::ys)|_,_=>none
structure St where
 t:List (Nat×V)
 o:List (Nat×Ob)
 n:Nat
inductive O where
 |t (n:Nat)
 |k (v:T)
 |fn (f:Nat)
 deriving Inhabited
inductive Kc where
 |int
 |bool
 |str
 deriving DecidableEq,Inhabited
inductive MO where
 |mv (x:O)
 |np
 |nil (sz:Nat)
 |pick (c a b:O)
 |alloc (zero:List T)
 |box (x:O)
 |build (zero:List T) (parts:List (Nat×Nat×O))
 |cm (sz len:Nat) (zero:List T) (parts:List (Nat×O))
 |jC (sz len:Nat) (zero:List T) (parts:List (Nat×O))
 |load (agg:Bool) (n:Nat) (a:O)
 |store (n:Nat) (a x:O)
 |beq (neg:Bool) (x y:O)
 |bin (op:BinOp) (x y:O)
 |eqs (neg:Bool) (ks:List Kc) (x y:O)
 |not (x:O)
 |neg (x:O)
 |mI (k:IntKind) (x:O)
 |pe (x:O)
 |pq (sz bytes:Nat) (zero:List T) (x:O)
 |pt (sz bytes:Nat) (zero:List T) (x y:O)
 |gY (x:O) (lo hi:Option O)
 |oX (sz:Nat) (x:O) (lo hi mx:Option O)
 |eD (off:Nat) (a:O)
 |da (sz:Nat) (x ix:O)
 |idx (x ix:O)
 |og (agg:Bool) (off n:Nat) (x:O)
 |ext (i:Nat) (x:O)
 |len (x:O)
 |dW (x:O)
 |app (sz bytes:Nat) (x y:O)
 |jI (sz bytes:Nat) (x y:O)
 |jg (sz:Nat) (x:O) (lo hi:Option O)
 |o3 (zero:List T) (x:O)
 |max (x y:O)
 |min (x y:O)
 |call (f:Nat) (args:List O) (lend:List Nat) (thaw:List (Nat×Nat))
 |fN (f:O) (args:List O)
 |j8 (f:Nat) (caps:List O)
 |ln (x:O)
 deriving Inhabited
structure cr where
 dst:Option Nat
 op:MO
 guard:Option (Nat×Bool):=none
 deriving Inhabited
abbrev kI(n:Int):O:= .k (.int .i64 n)
abbrev kB(b:Bool):O:= .k (.bool b)
abbrev lr(n:Nat):List Nat:=List.range n
abbrev Q(d:Nat)(x:MO):cr:=⟨some d,x,none⟩
abbrev Qn(x:MO):cr:=⟨none,x,none⟩
abbrev Qg(d:Nat)(x:MO)(g:Nat)(b:Bool):cr:=⟨some d,x,some (g,b)⟩
abbrev Qm(d x:Nat):cr:=⟨some d,.mv (.t x),none⟩
abbrev Qf(d k x:Nat):cr:=⟨some d,.eD k (.t x),none⟩
abbrev Ql(d x:Nat):cr:=⟨some d,.load false 1 (.t x),none⟩
abbrev QL(d k x:Nat):cr:=⟨some d,.load true k (.t x),none⟩
abbrev Qs(k a x:Nat):cr:=⟨none,.store k (.t a) (.t x),none⟩
abbrev Qb(d:Nat)(b:Bool):cr:=⟨some d,.mv (.k (.bool b)),none⟩
abbrev Qi(d:Nat)(n:Int):cr:=⟨some d,.mv (.k (.int .i64 n)),none⟩
abbrev Qx(d i x:Nat):cr:=⟨some d,.ext i (.t x),none⟩
abbrev Qa(d k x i:Nat):cr:=⟨some d,.da k (.t x) (.t i),none⟩
abbrev Qv(d x:Nat):cr:=⟨some d,.box (.t x),none⟩
inductive C where
 |skip
 |a7 (ops:List cr) (kt ko:List Nat)
 |jZ (ops:List cr) (anc:List (List Nat)) (kt ko:List Nat)
 |seq (a b:C)
 |cond (c:O) (a b:C)
 |block (id:Nat) (a:C)
 |loop (a:C)
 |exit (id:Nat)
 |ret
 |shut (ids:List Nat) (a:C)
 deriving Inhabited
inductive R where
 |tmp (t:Nat)
 |cell (t:Nat) (agg:Bool) (n:Nat)
structure Fn where
 np:Nat
 body:C
 res:List R
def T.scalar:T→Bool
 | .int .. =>true
 | .bool _=>true
 | .str _=>true
 |_=>false
def wr(o:List (Nat×Ob)):T→List Nat
 | .row id _ _ _=>match get o id with|some b=>if b.w then [id] else []|none=>[]
 | .ptr id _ _ _=>match get o id with|some b=>if b.w then [id] else []|none=>[]
 | .fn _ caps=>caps.flatMap fun
   | .ptr id _ _ _=>match get o id with|some b=>if b.w then [id] else []|none=>[]
   |_=>[]
 |_=>[]
def eI(o:List (Nat×Ob)):T→Option T
 | .int k n=>some (.int k n)
 | .bool b=>some (.bool b)
 | .str s=>some (.str s)
 | .cA sz=>some (.sl false sz [])
 | .sl _ sz rows=>some (.sl false sz rows)
 | .row id ar off len=>
   match get o id with
   |some b=>if b.ar=ar∧b.bx=false∧off+len≤b.rows.length then some (.sl false b.sz ((b.rows.drop off).take len)) else none
   |none=>none
 | .vp cells j=>some (.vp cells j)
 |_=>none
def lZ(o:List (Nat×Ob)):T→List Nat
 | .ptr id ar i j=>(match get o id with|some b=>(match b.rows[i]? with|some r=>r.flatMap (wr o)|none=>[])|none=>[])++wr o (.ptr id ar i j)
 |t=>wr o t
def nM(o:List (Nat×Ob)):T→Option T
 | .ptr id ar i j=>
   match get o id with
   |some b=>if b.ar=ar then(match b.rows[i]? with|some r=>(aS (eI o) r).map fun cells=> .vp cells j|none=>none) else none
   |none=>none
 |t=>eI o t
def im(o:List (Nat×Ob)):T→Option T
 | .fn f caps=>(aS (nM o) caps).map fun cs=> .fn f cs
 |t=>nM o t
def k0(o:List (Nat×Ob)):T→List Nat
 | .fn _ caps=>caps.flatMap (lZ o)
 |t=>lZ o t
def cl(o:List (Nat×Ob))(t:T):Option T:=match t with
 | .ptr .. =>none
 | .vp .. =>none
 | .fn .. =>none
 |t=>if(wr o t).isEmpty then eI o t else none
def V.cells:V→Option (List T)
 | .c t=>some [t]
 | .a ts=>some ts
 |_=>none
def V.im(o:List (Nat×Ob)):V→Option V
 | .c t=>(Mx.im o t).map .c
 | .a ts=>(aS (Mx.im o) ts).map .a
 |_=>none
def V.wr(o:List (Nat×Ob)):V→List Nat
 | .c t=>k0 o t
 | .a ts=>ts.flatMap (k0 o)
 |_=>[]
def look(t:List (Nat×V)):O→Option V
 | .t n=>get t n
 | .k v=>some (.c v)
 | .fn f=>some (.c (.fn f []))
def a8(t:List (Nat×V))(x:O):Option T:=match look t x with|some (.c v)=>some v|_=>none
def fE(t:List (Nat×V))(x:O):Option (IntKind×Int):=match look t x with|some (.c (.int k n))=>some (k,n)|_=>none
def dp(t:List (Nat×V))(x:O):Option Bool:=match look t x with|some (.c (.bool b))=>some b|_=>none
def cT(t:List (Nat×V))(x:O):Option Nat:=match look t x with|some (.c (.int _ n))=>if 0≤n then some n.toNat else none|_=>none
def gD(t:List (Nat×V))(x:O):Option (List T):=match look t x with|some (.a ts)=>some ts|_=>none
def dq(t:List (Nat×V))(x:O):Option (List T):=match look t x with|some v=>v.cells|none=>none
def p6(k:IntKind)(x y:Int):Int:=k.wrap (BitVec.ofInt k.bits x&&&BitVec.ofInt k.bits y).toNat
def qd(k:IntKind)(x y:Int):Int:=k.wrap (BitVec.ofInt k.bits x|||BitVec.ofInt k.bits y).toNat
def pW(k:IntKind)(x y:Int):Int:=k.wrap (BitVec.ofInt k.bits x^^^BitVec.ofInt k.bits y).toNat
def kb(op:BinOp)(k:IntKind)(x y:Int):Option T:=
 match op with
 | .add=>some (.int k (k.wrap (x+y)))
 | .sub=>some (.int k (k.wrap (x-y)))
 | .mul=>some (.int k (k.wrap (x*y)))
 | .quo=>if y=0 then none else some (.int k (k.wrap (x.tdiv y)))
 | .rem=>if y=0 then none else some (.int k (x.tmod y))
 | .and=>some (.int k (p6 k x y))
 | .or=>some (.int k (qd k x y))
 | .xor=>some (.int k (pW k x y))
 | .eql=>some (.bool (decide (x=y)))
 | .neq=>some (.bool (!decide (x=y)))
 | .lss=>some (.bool (decide (x<y)))
 | .leq=>some (.bool (decide (x≤y)))
 | .gtr=>some (.bool (decide (x>y)))
 | .geq=>some (.bool (decide (x≥y)))
 |_=>none
def gw(op:BinOp)(k:IntKind)(x y:Int):Option T:=
 if y<0 then none else
 match op with
 | .shl=>some (.int k (k.wrap (x*((2^(Min.min y.toNat k.bits):Nat):Int))))
 | .shr=>some (.int k (x.fdiv ((2^(Min.min y.toNat k.bits):Nat):Int)))
 |_=>none
def cH:List UInt8→List UInt8→Bool
 |_,[]=>false
 |[],_::_=>true
 |a::x,b::y=>a<b||(a==b&&cH x y)
def bR(op:BinOp)(x y:ByteArray):Option T:=
 match op with
 | .add=>if x.size+y.size≤4611686018427387904 then some (.str (x++y)) else none
 | .eql=>some (.bool (x.toList==y.toList))
 | .neq=>some (.bool !(x.toList==y.toList))
 | .lss=>some (.bool (cH x.toList y.toList))
 | .leq=>some (.bool (cH x.toList y.toList||x.toList==y.toList))
 | .gtr=>some (.bool !(cH x.toList y.toList||x.toList==y.toList))
 | .geq=>some (.bool !(cH x.toList y.toList))
 |_=>none
def fZ:BinOp→Bool
 | .shl=>true
 | .shr=>true
 |_=>false
def bin(op:BinOp)(x y:T):Option T:=
 match x,y with
 | .int k a,.int k' b=>if fZ op then gw op k a b else if k=k' then kb op k a b else none
 | .str a,.str b=>bR op a b
 |_,_=>none
def pw:Kc→T→T→Option Bool
 | .int,.int k a,.int k' b=>if k=k' then some (decide (a=b)) else none
 | .str,.str a,.str b=>some (decide (a.toList=b.toList))
 | .bool,.bool a,.bool b=>some (a==b)
 |_,_,_=>none
def ij:List Kc→List T→List T→Option Bool
 |[],[],[]=>some true
 |k::ks,x::xs,y::ys=>match pw k x y with|some b=>(match ij ks xs ys with|some c=>some (b&&c)|none=>none)|none=>none
 |_,_,_=>none
def max2:T→T→Option T
 | .int k x,.int k' y=>if k=k' then some (.int k (if y>x then y else x)) else none
 | .str x,.str y=>some (.str (if cH x.toList y.toList then y else x))
 |_,_=>none
def min2:T→T→Option T
 | .int k x,.int k' y=>if k=k' then some (.int k (if y<x then y else x)) else none
 |_,_=>none
def bM(s:ByteArray):List (List T):=s.data.toList.map fun b=>[T.int .u8 b.toNat]
def di(rows:List (List T)):Option (List UInt8):=aS (fun (r:List T)=>match r with
 |[.int .u8 n]=>some (UInt8.ofNat n.toNat)
 |_=>none) rows
def rowsOf(o:List (Nat×Ob)):T→Option (List (List T))
 | .cA _=>some []
 | .sl _ _ rows=>some rows
 | .row id ar off len=>
   match get o id with
   |some b=>if b.ar=ar∧b.bx=false∧off+len≤b.rows.length then some ((b.rows.drop off).take len) else none
   |none=>none
 |_=>none
def eT(o:List (Nat×Ob)):T→Option Nat
 | .sl _ sz _=>some sz
 | .row id _ _ _=>(get o id).map (·.sz)
 | .cA sz=>some sz
 |_=>none
def fB(o:List (Nat×Ob))(sz:Nat):T→Option (List (List T))
 | .str s=>if sz=1 then some (bM s) else none
 |y=>match rowsOf o y with
  |some ys=>if ys.isEmpty=true∨eT o y=some sz then some ys else none
  |none=>none
def lenOf:T→Option Nat
 | .cA _=>some 0
 | .sl _ _ rows=>some rows.length
 | .row _ _ _ len=>some len
 |_=>none
def place(o:List (Nat×Ob)):T→Option (List T×Nat)
 | .ptr id ar i j=>
   match get o id with
   |some b=>if b.ar=ar then(match b.rows[i]? with|some r=>some (r,j)|none=>none) else none
   |none=>none
 | .vp cells j=>some (cells,j)
 |_=>none
def setAt(r:List T)(j:Nat)(xs:List T):List T:=r.take j++xs++r.drop (j+xs.length)
def iE:List (Nat×List T)→List T→List T
 |[],r=>r
 |(j,xs)::l,r=>iE l (setAt r j xs)
abbrev au:=Nat→List V→List (Nat×Ob)→Option (V×List (Nat×Ob))
abbrev nK:=Option (V×List (Nat×Ob))
def b_(o:List (Nat×Ob))(p:Nat):V→Option (V×Nat×Ob)
 | .c (.ptr id ar 0 0)=>
   match get o id with
   |some b=>if b.ar=ar∧b.w=true∧b.bx=true then(aS (fun r=>aS (cl o) r) b.rows).map fun rows=>(.c (.ptr p p 0 0),id,{b with ar:=p,rows:=rows}) else none
   |none=>none
 | .c (.row id ar 0 len)=>
   match get o id with
   |some b=>if b.ar=ar∧b.w=true∧b.bx=false∧len≤b.rows.length then some (.c (.row p p 0 len),id,{b with ar:=p}) else none
   |none=>none
 |_=>none
def dw:T→Bool
 | .int .. =>true
 | .bool _=>true
 | .str _=>true
 | .sl true _ rows=>rows.all fun r=>r.all T.scalar
 | .row .. =>true
 |_=>false
def V.flat:V→Bool
 | .c t=>dw t
 | .a ts=>ts.all dw
 | .fj vs=>vs.all fun| .c t=>dw t| .a ts=>ts.all dw|_=>false
 | .undef=>false
def dy(n:Nat)(lent:List (Nat×Nat×Nat))(thaw:List (Nat×Nat))(q:Nat):T→Option (T×List (Nat×Ob))
 | .int k x=>some (.int k x,[])
 | .bool b=>some (.bool b,[])
 | .str s=>some (.str s,[])
 | .sl own sz rows=>
   match get thaw q with
   |some id=>if own then some (.row id (n+q) 0 rows.length,[(id,{ar:=n+q,sz:=sz,w:=true,bx:=false,rows:=rows})]) else none
   |none=>some (.sl false sz rows,[])
 | .row p _ off len=>match get lent p with|some (id,ar)=>some (.row id ar off len,[])|none=>none
 | .vp cells _=>
   match get thaw q with
   |some id=>some (.ptr id (n+q) 0 0,[(id,{ar:=n+q,sz:=cells.length,w:=true,bx:=true,rows:=[cells]})])
   |none=>none
 |_=>none
def ff(n:Nat)(lent:List (Nat×Nat×Nat))(thaw:List (Nat×Nat)):Nat→List T→Option (List T×List (Nat×Ob))
 |_,[]=>some ([],[])
 |q,t::ts=>
  match dy n lent thaw q t with
  |some (t',aK)=>(match ff n lent thaw (q+1) ts with|some (ts',ups')=>some (t'::ts',aK++ups')|none=>none)
  |none=>none
def eb(n:Nat)(lent:List (Nat×Nat×Nat))(thaw:List (Nat×Nat))(q:Nat):V→Option (V×List (Nat×Ob)×Nat)
 | .c t=>match dy n lent thaw q t with|some (t',aK)=>some (.c t',aK,q+1)|none=>none
 | .a ts=>match ff n lent thaw q ts with|some (ts',aK)=>some (.a ts',aK,q+ts.length)|none=>none
 |_=>none
def dN(n:Nat)(lent:List (Nat×Nat×Nat))(thaw:List (Nat×Nat)):Nat→List V→Option (List V×List (Nat×Ob))
 |_,[]=>some ([],[])
 |q,v::vs=>
  match eb n lent thaw q v with
  |some (v',aK,q')=>(match dN n lent thaw q' vs with|some (vs',ups')=>some (v'::vs',aK++ups')|none=>none)
  |none=>none
def back(n:Nat)(lent:List (Nat×Nat×Nat))(thaw:List (Nat×Nat)):V→Option (V×List (Nat×Ob))
 | .fj vs=>(dN n lent thaw 0 vs).map fun r=>(.fj r.1,r.2)
 |v=>(eb n lent thaw 0 v).map fun r=>(r.1,r.2.1)
def dr(o:List (Nat×Ob))(lend:List Nat):Nat→List T→Option (List T×List (Nat×Nat×Ob)×List Nat)
 |_,[]=>some ([],[],[])
 |k,t::ts=>
  match dr o lend (k+1) ts with
  |none=>none
  |some (ts',ls,b)=>
   if k∈lend then(match b_ o k (.c t) with|some (.c t',id,ob)=>some (t'::ts',(k,id,ob)::ls,b)|_=>none)
   else(match im o t with|some t'=>some (t'::ts',ls,k0 o t++b)|none=>none)
def cu(np id:Nat):Bool:=decide (id<np)||decide (1000000≤id)
def j9(lend:List Nat)(p:Nat):Bool:=lend.any fun k=>decide (1000000+64*p≤k)&&decide (k<1000000+64*(p+1))
def args(o:List (Nat×Ob))(lend:List Nat):Nat→List V→Option (List V×List (Nat×Nat×Ob)×List Nat)
 |_,[]=>some ([],[],[])
 |p,v::vs=>
  match args o lend (p+1) vs with
  |none=>none
  |some (as,ls,b)=>
   if p∈lend then(match b_ o p v with|some (v',id,ob)=>some (v'::as,(p,id,ob)::ls,b)|none=>none)
   else if j9 lend p then(match v with
    | .a ts=>if ts.length≤64 then(match dr o lend (1000000+64*p) ts with|some (ts',ls',b')=>some (.a ts'::as,ls'++ls,b'++b)|none=>none) else none
    |_=>none)
   else(match v.im o with|some v'=>some (v'::as,ls,v.wr o++b)|none=>none)
def dO(n:Nat)(b:Ob):Option Ob→Ob
 |some b'=>{b with rows:=b'.rows}
 |none=>{ar:=n+15,sz:=b.sz,w:=true,bx:=false,rows:=[]}
def bL(n:Nat)(o:List (Nat×Ob))(after:List (Nat×Ob)):List (Nat×Nat×Ob)→Option (List (Nat×Ob))
 |[]=>some []
 |(p,id,_)::ls=>
  match get o id,bL n o after ls with
  |some b,some l=>some ((id,dO n b (get after p))::l)
  |_,_=>none
def br(cf:au)(n:Nat)(o:List (Nat×Ob))(f:Nat)(vals:List V)(lend:List Nat)(thaw:List (Nat×Nat)):nK:=
 match args o lend 0 vals with
 |none=>none
 |some (as,ls,b)=>
  if vals.length≤1000∧(ls.map (·.2.1)).all (fun id=> !b.contains id)∧(ls.map (·.2.1)).Nodup then
   match cf f as (ls.map fun l=>(l.1,l.2.2)) with
   |none=>none
   |some (res,after)=>
    match bL n o after ls,back n (ls.map fun l=>(l.1,l.2.1,(get o l.2.1).elim 0 (·.ar))) thaw res with
    |some aK,some (v,ups')=>if b.isEmpty∨(res.flat∧aK.all fun u=>u.2.rows.all (·.all T.scalar)) then some (v,aK++ups') else none
    |_,_=>none
  else none
def fT(t:List (Nat×V))(d:Nat):Option O→Option Nat
 |none=>some d
 |some x=>cT t x
def act(cf:au)(n d:Nat)(t:List (Nat×V))(o:List (Nat×Ob)):MO→nK
 | .mv x=>(look t x).map fun v=>(v,[])
 | .np=>some (.undef,[])
 | .nil sz=>some (.c (.row d n 0 0),[(d,{ar:=n,sz:=sz,w:=true,bx:=false,rows:=[]})])
 | .pick c a b=>match dp t c with|some c=>(look t (if c then a else b)).map fun v=>(v,[])|none=>none
 | .alloc zero=>some (.c (.ptr d n 0 0),[(d,{ar:=n,sz:=zero.length,w:=true,bx:=true,rows:=[zero]})])
 | .box x=>(dq t x).map fun cs=>(.c (.ptr d n 0 0),[(d,{ar:=n,sz:=cs.length,w:=true,bx:=true,rows:=[cs]})])
 | .build zero parts=>
   (aS (fun (p:Nat×Nat×O)=>match dq t p.2.2 with|some cs=>if cs.length=p.2.1∧p.1+p.2.1≤zero.length then some (p.1,cs) else none|none=>none) parts).map fun ps=>(.a (iE ps zero),[])
 | .cm sz len zero parts=>
   (aS (fun (p:Nat×O)=>match dq t p.2 with|some cs=>if cs.length=sz∧p.1<len then(aS (cl o) cs).map fun cs=>(p.1,cs) else none|none=>none) parts).map fun ps=>
   (.c (.row d n 0 len),[(d,{ar:=n,sz:=sz,w:=true,bx:=false,rows:=ps.foldl (fun rs p=>rs.set p.1 p.2) (List.replicate len zero)})])
 | .jC sz len zero parts=>
   (aS (fun (p:Nat×O)=>match dq t p.2 with|some cs=>if cs.length=sz∧p.1<len then(aS (cl o) cs).map fun cs=>(p.1,cs) else none|none=>none) parts).map fun ps=>
   (.c (.row d n 0 len),[(d,{ar:=n,sz:=sz,w:=false,bx:=false,rows:=ps.foldl (fun rs p=>rs.set p.1 p.2) (List.replicate len zero)})])
 | .load agg k a=>
   match a8 t a with
   |none=>none
   |some a=>
    match place o a with
    |none=>none
    |some (r,j)=>
     if agg then(if j+k≤r.length then some (.a ((r.drop j).take k),[]) else none)
     else(r[j]?).map fun c=>(.c c,[])
 | .store k a x=>
   match a8 t a,dq t x with
   |some (.ptr id ar i j),some cs=>
    match get o id with
    |some b=>
     if b.ar=ar∧b.w=true∧cs.length=k then
     match b.rows[i]?,(if b.bx then some cs else aS (cl o) cs) with
     |some r,some cs=>if j+cs.length≤r.length then some (.undef,[(id,{b with rows:=b.rows.set i (setAt r j cs)})]) else none
     |_,_=>none
     else none
    |none=>none
   |_,_=>none
 | .bin op x y=>match a8 t x,a8 t y with|some x,some y=>(bin op x y).map fun v=>(.c v,[])|_,_=>none
 | .eqs neg ks x y=>match gD t x,gD t y with|some x,some y=>(ij ks x y).map fun b=>(.c (.bool (if neg then !b else b)),[])|_,_=>none
 | .beq neg x y=>match dp t x,dp t y with|some x,some y=>some (.c (.bool (if neg then !(x==y) else x==y)),[])|_,_=>none
 | .not x=>(dp t x).map fun b=>(.c (.bool !b),[])
 | .neg x=>(fE t x).map fun k=>(.c (.int k.1 (k.1.wrap (0-k.2))),[])
 | .mI k x=>(fE t x).map fun m=>(.c (.int k (k.wrap m.2)),[])
 | .pe x=>match a8 t x with|some x=>(match rowsOf o x with|some rows=>if rows.isEmpty∨eT o x=some 1 then(di rows).map fun bs=>(.c (.str ⟨bs.toArray⟩),[]) else none|none=>none)|none=>none
 | .pq sz bytes zero x=>match cT t x with
   |some l=>if l≤4294967296∧bytes*l≤140737488355328 then some (.c (.row d n 0 l),[(d,{ar:=n,sz:=sz,w:=true,bx:=false,rows:=List.replicate l zero})]) else none
   |none=>none
 | .pt sz bytes zero x y=>match cT t x,cT t y with
   |some l,some m=>if l≤m∧m≤4294967296∧bytes*m≤140737488355328 then some (.c (.row d n 0 l),[(d,{ar:=n,sz:=sz,w:=true,bx:=false,rows:=List.replicate l zero})]) else none
   |_,_=>none
 | .gY x lo hi=>
   match a8 t x with
   |some (.str s)=>(match fT t 0 lo,fT t s.size hi with
    |some l,some h=>if l≤h∧h≤s.size then some (.c (.str (s.extract l h)),[]) else none
    |_,_=>none)
   |_=>none
 | .oX size x lo hi mx=>
   match a8 t x with
   |some x=>
    (match lenOf x with
    |some len=>
     (match fT t 0 lo,fT t len hi,fT t len mx with
     |some l,some h,some m=>
      if l≤h∧h≤m∧m≤len then
      if mx.isSome then some (.undef,[]) else
      (match x with
      | .cA sz=>some (.c (.cA sz),[])
      | .sl _ sz rows=>if sz=size then some (.c (.sl false sz ((rows.drop l).take (h-l))),[]) else none
      | .row id ar off _=>match get o id with
        |some b=>if b.ar=ar∧b.bx=false∧b.sz=size then(if l=h∧off+l≠0 then some (.c (.sl false b.sz []),[]) else some (.c (.row id ar (off+l) (h-l)),[])) else none
        |none=>none
      |_=>none)
      else none
     |_,_,_=>none)
    |none=>none)
   |none=>none
 | .eD off a=>
   match a8 t a with
   |some (.ptr id ar i j)=>some (.c (.ptr id ar i (j+off)),[])
   |some (.vp cells j)=>some (.c (.vp cells (j+off)),[])
   |_=>none
 | .da sz x ix=>
   match a8 t x,cT t ix with
   |some (.row id ar off len),some i=>(match get o id with
    |some b=>if b.ar=ar∧b.sz=sz∧b.bx=false∧i<len then some (.c (.ptr id ar (off+i) 0),[]) else none
    |none=>none)
   |some (.sl _ sz' rows),some i=>if sz'=sz then(rows[i]?).map fun r=>(.c (.vp r 0),[]) else none
   |_,_=>none
 | .idx x ix=>
   match a8 t x,cT t ix with
   |some (.str s),some i=>if h:i<s.size then some (.c (.int .u8 (s[i]'h).toNat),[]) else none
   |_,_=>none
 | .og agg off k x=>
   match look t x with
   |some (.a cs)=>if agg then(if off+k≤cs.length then some (.a ((cs.drop off).take k),[]) else none) else(cs[off]?).map fun c=>(.c c,[])
   |_=>none
 | .ext i x=>match look t x with|some (.fj vs)=>(vs[i]?).map fun v=>(v,[])|_=>none
 | .len x=>match a8 t x with|some x=>(lenOf x).map fun (m:Nat)=>(.c (.int .i64 (m:Int)),[])|none=>none
 | .dW x=>match a8 t x with|some (.str s)=>some (.c (.int .i64 (s.size:Int)),[])|_=>none
 | .app sz bytes x y=>
   match a8 t x,a8 t y with
   |some x,some y=>
    match fB o sz y with
    |none=>none
    |some ys=>
     if bytes≤4096 then
     match x with
     | .cA _=>if ys.length≤4294967296 then some (.c (.row d n 0 ys.length),[(d,{ar:=n,sz:=sz,w:=true,bx:=false,rows:=ys})]) else none
     | .row id ar 0 len=>
       (match get o id with
       |some b=>if b.ar=ar∧b.w=true∧b.bx=false∧b.sz=sz∧len≤b.rows.length∧len+ys.length≤4294967296 then
        some (.c (.row id n 0 (len+ys.length)),[(id,{b with ar:=n,rows:=b.rows.take len++ys})]) else none
       |none=>none)
     |_=>none
     else none
   |_,_=>none
 | .jI sz bytes x y=>
   match a8 t x,a8 t y with
   |some (.row id ar 0 len),some y=>
    (match fB o sz y,get o id with
    |some ys,some b=>if bytes≤4096∧b.ar=ar∧b.w=true∧b.bx=false∧b.sz=sz∧len+ys.length≤b.rows.length∧len+ys.length≤4294967296 then
     some (.c (.row id ar 0 (len+ys.length)),[(id,{b with rows:=b.rows.take len++ys++b.rows.drop (len+ys.length)})]) else none
    |_,_=>none)
   |_,_=>none
 | .jg size x lo hi=>
   match a8 t x with
   |some (.row id ar off len)=>
    (match get o id,fT t 0 lo,fT t len hi with
    |some b,some l,some h=>if b.ar=ar∧b.bx=false∧b.sz=size∧l≤h∧off+h≤b.rows.length then(if l=h∧off+l≠0 then some (.c (.sl false b.sz []),[]) else some (.c (.row id ar (off+l) (h-l)),[])) else none
    |_,_,_=>none)
   |_=>none
 | .o3 zero x=>
   match a8 t x with
   |some (.cA _)=>some (.undef,[])
   |some (.sl _ _ [])=>some (.undef,[])
   |some (.row id ar off len)=>(match get o id with
    |some b=>if len=0 then some (.undef,[]) else if b.ar=ar∧b.w=true∧b.bx=false∧b.sz=zero.length∧off+len≤b.rows.length then
     some (.undef,[(id,{b with rows:=b.rows.take off++List.replicate len zero++b.rows.drop (off+len)})]) else none
    |none=>none)
   |_=>none
 | .max x y=>match a8 t x,a8 t y with|some x,some y=>(max2 x y).map fun v=>(.c v,[])|_,_=>none
 | .min x y=>match a8 t x,a8 t y with|some x,some y=>(min2 x y).map fun v=>(.c v,[])|_,_=>none
 | .call f as lend thaw=>match aS (look t) as with|some vals=>br cf n o f vals lend thaw|none=>none
 | .fN x as=>match a8 t x,aS (look t) as with
   |some (.fn f caps),some vals=>br cf n o f (vals++caps.map .c) [] []
   |_,_=>none
 | .j8 f caps=>(aS (a8 t) caps).map fun cs=>(.c (.fn f cs),[])
 | .ln x=>match a8 t x with
   |some (.ptr a b c e)=>some (.c (.ptr a b c e),[])
   |some (.vp a b)=>some (.c (.vp a b),[])
   |some (.fn a b)=>some (.c (.fn a b),[])
   |_=>none
def wanted(t:List (Nat×V)):Option (Nat×Bool)→Option Bool
 |none=>some true
 |some (g,b)=>match get t g with|some (.c (.bool v))=>some (v==b)|some .undef=>some false|_=>none
def cC(t:List (Nat×V))(d:Option Nat)(v:V):List (Nat×V):=match d with|some d=>(d,v)::t|none=>t
def step(cf:au)(n i:Nat)(m:cr)(t:List (Nat×V))(o:List (Nat×Ob)):Option (List (Nat×V)×List (Nat×Ob)):=
 match wanted t m.guard with
 |some true=>(act cf (n+16*i) (m.dst.getD 0) t o m.op).map fun r=>(cC t m.dst r.1,r.2++o)
 |some false=>some (cC t m.dst .undef,o)
 |none=>none
def steps(cf:au)(n:Nat):Nat→List cr→List (Nat×V)→List (Nat×Ob)→Option (List (Nat×V)×List (Nat×Ob))
 |_,[],t,o=>some (t,o)
 |i,m::ms,t,o=>match step cf n i m t o with|some (t',o')=>steps cf n (i+1) ms t' o'|none=>none
def O.tmps:O→List Nat
 | .t n=>[n]
 |_=>[]
def fD:Option O→List Nat
 |some x=>x.tmps
 |none=>[]
def MO.tmps:MO→List Nat
 | .mv x=>x.tmps
 | .np=>[]
 | .nil _=>[]
 | .pick c a b=>c.tmps++a.tmps++b.tmps
 | .alloc _=>[]
 | .box x=>x.tmps
 | .build _ parts=>parts.flatMap fun p=>p.2.2.tmps
 | .cm _ _ _ parts=>parts.flatMap fun p=>p.2.tmps
 | .jC _ _ _ parts=>parts.flatMap fun p=>p.2.tmps
 | .load _ _ a=>a.tmps
 | .store _ a x=>a.tmps++x.tmps
 | .beq _ x y=>x.tmps++y.tmps
 | .bin _ x y=>x.tmps++y.tmps
 | .eqs _ _ x y=>x.tmps++y.tmps
 | .not x=>x.tmps
 | .neg x=>x.tmps
 | .mI _ x=>x.tmps
 | .pe x=>x.tmps
 | .pq _ _ _ x=>x.tmps
 | .pt _ _ _ x y=>x.tmps++y.tmps
 | .gY x lo hi=>x.tmps++fD lo++fD hi
 | .oX _ x lo hi mx=>x.tmps++fD lo++fD hi++fD mx
 | .eD _ a=>a.tmps
 | .da _ x ix=>x.tmps++ix.tmps
 | .idx x ix=>x.tmps++ix.tmps
 | .og _ _ _ x=>x.tmps
 | .ext _ x=>x.tmps
 | .len x=>x.tmps
 | .dW x=>x.tmps
 | .app _ _ x y=>x.tmps++y.tmps
 | .jI _ _ x y=>x.tmps++y.tmps
 | .jg _ x lo hi=>x.tmps++fD lo++fD hi
 | .o3 _ x=>x.tmps
 | .max x y=>x.tmps++y.tmps
 | .min x y=>x.tmps++y.tmps
 | .call _ args _ _=>args.flatMap O.tmps
 | .fN f args=>f.tmps++args.flatMap O.tmps
 | .j8 _ caps=>caps.flatMap O.tmps
 | .ln x=>x.tmps
def dv:T→List Nat
 | .row id _ _ _=>[id]
 | .ptr id _ _ _=>[id]
 | .fn _ caps=>caps.flatMap fun
   | .row id _ _ _=>[id]
   | .ptr id _ _ _=>[id]
   |_=>[]
 |_=>[]
def hC(o:List (Nat×Ob))(id:Nat):List Nat:=match get o id with
 |some b=>if b.bx then b.rows.flatMap fun r=>r.flatMap dv else []
 |none=>[]
def gJ(o:List (Nat×Ob)):V→List Nat
 | .c t=>dv t++(dv t).flatMap (hC o)
 | .a ts=>ts.flatMap fun t=>dv t++(dv t).flatMap (hC o)
 |_=>[]
def MO.kd:MO→List Nat
 | .mv _=>[]
 |m=>m.tmps
def cQ(t:List (Nat×V))(o:List (Nat×Ob))(m:MO):List Nat:=m.kd.flatMap fun x=>match get t x with|some v=>gJ o v|none=>[]
structure cE where
 dst:Option Nat
 v:V
 aK:List (Nat×Ob)
 T:List Nat
def cE.W(e:cE):List Nat:=e.aK.map (·.1)
def cE.apart(e f:cE):Bool:=e.W.all (fun x=> !f.T.contains x&& !f.W.contains x)&&f.W.all (fun x=> !e.T.contains x)
def cq(cf:au)(n i:Nat)(m:cr)(t:List (Nat×V))(o:List (Nat×Ob)):Option cE:=
 match wanted t m.guard with
 |some true=>(act cf (n+16*i) (m.dst.getD 0) t (keep (cQ t o m.op) o) m.op).map fun r=>⟨m.dst,r.1,r.2,cQ t o m.op⟩
 |some false=>some ⟨m.dst,.undef,[],[]⟩
 |none=>none
def bg(cf:au)(n:Nat):Nat→List cr→List (List Nat)→List (Nat×V)→List (Nat×Ob)→List (Nat×cE)→Option (List (Nat×V)×List (Nat×Ob))
 |_,[],_,t,o,_=>some (t,o)
 |i,m::ms,a::as,t,o,acc=>
  match cq cf n i m t o with
  |some e=>if acc.all (fun x=>a.contains x.1||e.apart x.2) then bg cf n (i+1) ms as (cC t e.dst e.v) (e.aK++o) ((i,e)::acc) else none
  |none=>none
 |_,_::_,[],_,_,_=>none
inductive Out where
 |normal
 |exit (id:Nat)
 |ret
def bq(f:St→Option (Out×St)):Nat→St→Option (Out×St)
 |0,_=>none
 |k+1,s=>match f s with
  |some (.normal,s')=>bq f k s'
  |r=>r
def fp(ids:List Nat)(o:List (Nat×Ob)):List (Nat×Ob):=o.map fun p=>(p.1,if p.1∈ids then {p.2 with w:=false} else p.2)
def bp(cf:au)(k:Nat):C→St→Option (Out×St)
 | .skip,s=>some (.normal,s)
 | .a7 ops kt ko,s=>(steps cf s.n 0 ops s.t s.o).map fun r=>(.normal,{t:=keep kt r.1,o:=keep ko r.2,n:=s.n+16*ops.length})
 | .jZ ops anc kt ko,s=>(bg cf s.n 0 ops anc s.t s.o []).map fun r=>(.normal,{t:=keep kt r.1,o:=keep ko r.2,n:=s.n+16*ops.length})
 | .seq a b,s=>match bp cf k a s with|some (.normal,s')=>bp cf k b s'|r=>r
 | .cond c a b,s=>match dp s.t c with|some true=>bp cf k a s|some false=>bp cf k b s|none=>none
 | .block id a,s=>match bp cf k a s with|some (.exit id',s')=>some (if id'=id then(.normal,s') else(.exit id',s'))|r=>r
 | .loop a,s=>bq (bp cf k a) k s
 | .exit id,s=>some (.exit id,s)
 | .ret,s=>some (.ret,s)
 | .shut ids a,s=>bp cf k a {s with o:=fp ids s.o}
def fc(np:Nat)(o:List (Nat×Ob)):T→Option T
 | .int k n=>some (.int k n)
 | .bool b=>some (.bool b)
 | .str s=>some (.str s)
 | .cA sz=>some (.sl true sz [])
 | .sl _ sz rows=>some (.sl false sz rows)
 | .row id ar off len=>
   match get o id with
   |some b=>if b.ar=ar∧b.bx=false∧off+len≤b.rows.length then
    if cu np id then some (.row id ar off len) else
    if b.w∧off=0 then some (.sl true b.sz (b.rows.take len)) else if b.w then none else some (.sl false b.sz ((b.rows.drop off).take len)) else none
   |none=>none
 | .ptr id ar i j=>
   match get o id with
   |some b=>if b.ar=ar∧b.w=true∧b.bx=true∧i=0∧j=0∧cu np id=false then
    (match b.rows with|[r]=>(aS (cl o) r).map fun r'=> .vp r' 0|_=>none) else none
   |none=>none
 |_=>none
def V.fin(np:Nat)(o:List (Nat×Ob)):V→Option V
 | .c t=>(fc np o t).map .c
 | .a ts=>(aS (fc np o) ts).map .a
 |_=>none
def iI(np:Nat)(o:List (Nat×Ob))(v:V):List Nat:=(v.cells.getD []).flatMap fun
 | .row id _ _ _=>if cu np id then [] else(match get o id with|some b=>if b.w then [id] else []|none=>[])
 | .ptr id _ _ _=>if cu np id then [] else(match get o id with|some b=>if b.w then [id] else []|none=>[])
 |_=>[]
def mf(t:List (Nat×V))(o:List (Nat×Ob)):R→Option V
 | .tmp x=>get t x
 | .cell x agg k=>match get t x with
   |some (.c a)=>(match place o a with
    |some (r,j)=>if agg then(if j+k≤r.length then some (.a ((r.drop j).take k)) else none) else(r[j]?).map .c
    |none=>none)
   |_=>none
def nO:List V→V
 |[v]=>v
 |vs=> .fj vs
def eh(o:List (Nat×Ob)):List (Nat×Ob)→Option (List (Nat×Ob))
 |[]=>some []
 |(p,_)::l=>
  match get o p,eh o l with
  |some b,some l'=>
   if b.ar=p∧b.w=true then
    if b.bx then(aS (fun r=>aS (cl o) r) b.rows).map fun rows=>(p,{b with rows:=rows})::l' else some ((p,b)::l')
   else none
  |_,_=>none
def eR(cf:au)(k:Nat)(f:Fn)(as:List V)(lent:List (Nat×Ob)):Option (V×List (Nat×Ob)):=
 if as.length=f.np then
  match bp cf k f.body {t:=(List.range f.np).zip as,o:=lent,n:=2000000} with
  |some (.exit _,_)=>none
  |some (_,s)=>
   match aS (mf s.t s.o) f.res,eh s.o lent with
   |some vs,some after=>if(vs.flatMap (iI f.np s.o)).Nodup then(aS (V.fin f.np s.o) vs).map fun vs=>(nO vs,after) else none
   |_,_=>none
  |none=>none
 else none
inductive Body where
 |code (f:Fn)
 |ext (g:List V→List (Nat×Ob)→Option (V×List (Nat×Ob)))
def hH(M:Nat→Option Body):Nat→au
 |0,_,_,_=>none
 |k+1,f,as,lent=>match M f with
  |some (.code b)=>eR (hH M k) k b as lent
  |some (.ext g)=>g as lent
  |none=>none
end Mx
namespace Mx
open Go
inductive Loc where
 |nil
 |bQ (b cap sz:Nat)
structure Cx where
 w:World
 U:Nat→Prop
 E:Nat→Option Loc
 F:Nat→FuncId
def aY(b:Nat):Addr:=⟨b,0,none⟩
theorem cw(b n:Nat):(aY b).add n=⟨b,n,none⟩:=by unfold Addr.add aY;split<;>simp_all
theorem bo(a:Addr)(n:Nat):(a.add n).block=a.block:=by unfold Addr.add;split<;>simp
theorem add_zero(a:Addr):a.add 0=a:=by simp[Addr.add]
theorem add_add(a:Addr)(m n:Nat):(a.add m).add n=a.add (m+n):=by
 unfold Addr.add;by_cases h1:n=0<;>by_cases h2:m=0<;>simp_all<;>omega
inductive aH:T→Prop
 |int (k:IntKind) (n:Int):aH (.int k n)
 |bool (b:Bool):aH (.bool b)
 |str (s:ByteArray):aH (.str s)
 |cA (sz:Nat):aH (.cA sz)
 |sl (own:Bool) (sz:Nat) (rows:List (List T)) (h:∀(i j:Nat) (r:List T) (t:T),rows[i]? =some r→r[j]? =some t→aH t):aH (.sl own sz rows)
 |vp (cells:List T) (j:Nat) (h:∀(q:Nat) (t:T),cells[j+q]? =some t→aH t):aH (.vp cells j)
 |fn (f:Nat) (caps:List T) (h:∀(i:Nat) (t:T),caps[i]? =some t→aH t):aH (.fn f caps)
inductive bc (X:Cx):T→Value→Prop
 |int (k:IntKind) (n:Int):bc X (.int k n) (.int k n)
 |bool (b:Bool):bc X (.bool b) (.bool b)
 |str (s:ByteArray):bc X (.str s) (.string s)
 |cA (sz:Nat):bc X (.cA sz) (.slice none 0 0)
 |sl (own:Bool) (sz:Nat) (rows:List (List T)) (A:Option Addr) (c:Nat) (vs:Nat→Nat→Value) (hc:rows.length≤c)
   (hsz:∀(i:Nat) (r:List T),rows[i]? =some r→r.length=sz)
   (hcell:∀(i j:Nat) (r:List T) (t:T),rows[i]? =some r→r[j]? =some t→∃ad,A=some ad∧¬X.U ad.block∧X.w.cell? (ad.add (i*sz+j))=some (vs i j))
   (hrep:∀(i j:Nat) (r:List T) (t:T),rows[i]? =some r→r[j]? =some t→bc X t (vs i j))
   (hcl:∀(i j:Nat) (r:List T) (t:T),rows[i]? =some r→r[j]? =some t→aH t):bc X (.sl own sz rows) (.slice A rows.length c)
 |row (id ar off len cap sz b:Nat) (hE:X.E ar=some (.bQ b cap sz)) (hl:off+len≤cap) (ho:0<len∨off=0):
   bc X (.row id ar off len) (.slice (some ((aY b).add (off*sz))) len (cap-off))
 |cI (id ar:Nat) (hE:X.E ar=some .nil):bc X (.row id ar 0 0) (.slice none 0 0)
 |ptr (id ar i j b cap sz:Nat) (hE:X.E ar=some (.bQ b cap sz)):bc X (.ptr id ar i j) (.pointer (some ((aY b).add (i*sz+j))))
 |vp (cells:List T) (j:Nat) (ad:Addr) (vs:Nat→Value)
   (hcell:∀(q:Nat) (t:T),cells[j+q]? =some t→¬X.U ad.block∧X.w.cell? (ad.add q)=some (vs q))
   (hrep:∀(q:Nat) (t:T),cells[j+q]? =some t→bc X t (vs q))
   (hcl:∀(q:Nat) (t:T),cells[j+q]? =some t→aH t):bc X (.vp cells j) (.pointer (some ad))
 |fn (f:Nat) (caps:List T) (cs:Array Value) (hn:caps.length=cs.size)
   (hrep:∀(i:Nat) (t:T) (v:Value),caps[i]? =some t→cs[i]? =some v→bc X t v):bc X (.fn f caps) (.func (.func (X.F f)) #[] cs)
theorem bc.one{X:Cx}{t:T}{v:Value}(h:bc X t v):v.oneCell'=true:=by cases h<;>rfl
theorem bc.cells{X:Cx}{t:T}{v:Value}(h:bc X t v):v.cells= #[v]:=by cases h<;>rfl
structure b9 (X X':Cx):Prop where
 F:X'.F=X.F
 E:∀ar l,X.E ar=some l→X'.E ar=some l
 c:∀ad v,¬X.U ad.block→X.w.cell? ad=some v→X'.w.cell? ad=some v∧¬X'.U ad.block
theorem b9.trans{X Y Z:Cx}(h:b9 X Y)(k:b9 Y Z):b9 X Z:=
 ⟨k.F.trans h.F,fun v l q=>k.E v l (h.E v l q),fun ad v hu hc=>k.c ad v (h.c ad v hu hc).2 (h.c ad v hu hc).1⟩
theorem bc.mono{X X':Cx}(K:b9 X X'){t:T}{v:Value}(h:bc X t v):bc X' t v:=by
 induction h with
 |int k n=>exact .int k n
 |bool b=>exact .bool b
 |str s=>exact .str s
 |cA sz=>exact .cA sz
 |sl own sz rows A c vs hc hsz hcell hrep hcl ih=>
  refine .sl own sz rows A c vs hc hsz ?_ ih hcl;intro i j r t hr ht;obtain⟨ad,rfl,hu,hw⟩:=hcell i j r t hr ht;have hb:¬X.U (ad.add (i*sz+j)).block:=by rw[bo];exact hu
  have:=K.c _ _ hb hw;rw[bo] at this;exact⟨ad,rfl,this.2,this.1⟩
 |row id ar off len cap sz b hE hl ho=>exact .row id ar off len cap sz b (K.E _ _ hE) hl ho
 |cI id ar hE=>exact .cI id ar (K.E _ _ hE)
 |ptr id ar i j b cap sz hE=>exact .ptr id ar i j b cap sz (K.E _ _ hE)
 |vp cells j ad vs hcell hrep hcl ih=>
  refine .vp cells j ad vs ?_ ih hcl;intro q t ht;obtain⟨hu,hw⟩:=hcell q t ht;have hb:¬X.U (ad.add q).block:=by rw[bo];exact hu
  have:=K.c _ _ hb hw;rw[bo] at this;exact⟨this.2,this.1⟩
 |fn f caps cs hn hrep ih=>rw[←K.F];exact .fn f caps cs hn ih
inductive bm (X:Cx):V→Value→Prop
 |c (t:T) (v:Value) (h:bc X t v):bm X (.c t) v
 |a (ts:List T) (cs:Array Value) (hn:ts.length=cs.size) (h:∀(i:Nat) (t:T) (v:Value),ts[i]? =some t→cs[i]? =some v→bc X t v):bm X (.a ts) (.agg cs)
 |fj (vs:List V) (xs:Array Value) (hn:vs.length=xs.size) (h:∀(i:Nat) (v:V) (x:Value),vs[i]? =some v→xs[i]? =some x→bm X v x):bm X (.fj vs) (.tuple xs)
 |undef (v:Value) (h:∀b,v≠.bool b):bm X .undef v
theorem bm.mono{X X':Cx}(K:b9 X X'){t:V}{v:Value}(h:bm X t v):bm X' t v:=by
 induction h with
 |c t v h=>exact .c t v (h.mono K)
 |a ts cs hn h=>exact .a ts cs hn fun i t v ht hv=>(h i t v ht hv).mono K
 |fj vs xs hn h ih=>exact .fj vs xs hn ih
 |undef v h=>exact .undef v h
def aP(X:Cx)(ts:List T)(cs:List Value):Prop:=ts.length=cs.length∧∀(i:Nat) (t:T) (v:Value),ts[i]? =some t→cs[i]? =some v→bc X t v
theorem aP.mono{X X':Cx}(K:b9 X X'){ts:List T}{cs:List Value}(h:aP X ts cs):aP X' ts cs:=⟨h.1,fun i t v ht hv=>(h.2 i t v ht hv).mono K⟩
theorem aP.nil(X:Cx):aP X [] []:=⟨rfl,fun i t v h=>by simp at h⟩
theorem aP.cons{X:Cx}{t:T}{v:Value}{ts:List T}{cs:List Value}(h:bc X t v)(hl:aP X ts cs):aP X (t::ts) (v::cs):=by
 refine⟨by simp[hl.1],fun i a b ha hb=> ?_⟩;cases i with
 |zero=>simp at ha hb;subst ha hb;exact h
 |succ i=>simp at ha hb;exact hl.2 i a b ha hb
theorem aP.gn{X:Cx}{t:T}{ts:List T}{cs:List Value}(h:aP X (t::ts) cs):∃v cs',cs=v::cs'∧bc X t v∧aP X ts cs':=by
 cases cs with
 |nil=>simp[aP] at h
 |cons v cs'=>
  refine⟨v,cs',rfl,h.2 0 t v (by simp) (by simp),by have:=h.1;simpa using this,fun i a b ha hb=>h.2 (i+1) a b (by simpa using ha) (by simpa using hb)⟩
theorem aP.append{X:Cx}{ts us:List T}{cs ds:List Value}(h:aP X ts cs)(k:aP X us ds):aP X (ts++us) (cs++ds):=by
 induction ts generalizing cs with
 |nil=>have:=h.1;cases cs with|nil=>simpa using k|cons=>simp at this
 |cons t ts ih=>
  obtain⟨v,cs',rfl,hv,hl⟩:=h.gn;exact .cons hv (ih hl)
theorem aP.take{X:Cx}{ts:List T}{cs:List Value}(h:aP X ts cs)(n:Nat):aP X (ts.take n) (cs.take n):=by
 refine⟨by simp[h.1],fun i t v ht hv=> ?_⟩;rw[aC] at ht hv;split at ht
 ·rename_i hi;rw[if_pos hi] at hv;exact h.2 i t v ht hv
 ·cases ht
theorem aP.drop{X:Cx}{ts:List T}{cs:List Value}(h:aP X ts cs)(n:Nat):aP X (ts.drop n) (cs.drop n):=by
 refine⟨by simp[h.1],fun i t v ht hv=> ?_⟩;rw[aL] at ht hv;exact h.2 _ t v ht hv
theorem aP.one{X:Cx}{ts:List T}{cs:List Value}(h:aP X ts cs):∀v∈cs,v.oneCell'=true:=by
 intro v hv;obtain⟨i,hi,rfl⟩:=List.mem_iff_getElem.1 hv;have:i<ts.length:=by rw[h.1];exact hi
 exact(h.2 i ts[i] cs[i] (by simp[this]) (by simp[hi])).one
theorem aP.replicate{X:Cx}{ts:List T}{cs:List Value}(h:aP X ts cs)(n:Nat):aP X (List.replicate n ts).flatten (List.replicate n cs).flatten:=by
 induction n with
 |zero=>simp[aP]
 |succ n ih=>simp only[List.replicate_succ,List.flatten_cons];exact h.append ih
theorem bm.cells{X:Cx}{v:V}{x:Value}{ts:List T}(h:bm X v x)(hc:v.cells=some ts):aP X ts x.cells.toList:=by
 cases h with
 |c t v h=>simp[V.cells] at hc;subst hc;rw[h.cells];exact .cons h (.nil X)
 |a ts cs hn h=>simp[V.cells] at hc;subst hc;exact⟨by simpa [Value.cells] using hn,fun i t v ht hv=>h i t v ht (by simpa [Value.cells] using hv)⟩
 |fj=>simp[V.cells] at hc
 |undef=>simp[V.cells] at hc
theorem bm.po{X:Cx}{ts:List T}{cs:List Value}(h:aP X ts cs):bm X (.a ts) (.agg cs.toArray):=
 .a ts _ (by simpa using h.1) fun i t v ht hv=>h.2 i t v ht (by simpa using hv)
structure fg (X:Cx) (ob:Ob) (b cap:Nat):Prop where
 len:ob.rows.length≤cap
 width:∀(i:Nat) (r:List T),ob.rows[i]? =some r→r.length=ob.sz
 cl:ob.bx=false→∀(i j:Nat) (r:List T) (t:T),ob.rows[i]? =some r→r[j]? =some t→aH t
 mem:∃cs e fr,X.w.heap[b]? =some (.cells cs e fr)∧cs.size=cap*ob.sz∧(∀o,o≤cs.size→¬(fr.1≤o∧o<fr.2))∧
  ∀(i j:Nat) (r:List T) (t:T),ob.rows[i]? =some r→r[j]? =some t→∃v,cs[i*ob.sz+j]? =some v∧bc X t v
def cD(X:Cx)(ob:Ob):Loc→Prop
 | .nil=>ob.rows=[]∧ob.bx=false
 | .bQ b cap sz=>sz=ob.sz∧fg X ob b cap
theorem fg.mono{X X':Cx}(K:b9 X X'){ob:Ob}{b cap:Nat}(h:fg X ob b cap)(hb:X'.w.heap[b]? =X.w.heap[b]?):fg X' ob b cap:=by
 obtain⟨hl,hw,hcl,cs,e,fr,h1,h2,h3,h4⟩:=h;refine⟨hl,hw,hcl,cs,e,fr,hb.trans h1,h2,h3,fun i j r t hr ht=> ?_⟩;obtain⟨v,hv,hr⟩:=h4 i j r t hr ht;exact⟨v,hv,hr.mono K⟩
def cx(F:Nat→FuncId)(Pr:Nat→Prop)(E:Nat→Option Loc)(o:List (Nat×Ob))(w:World):Cx:=
 {w:=w,U:=fun b=>(∃id ob cap sz,get o id=some ob∧ob.w=true∧E ob.ar=some (.bQ b cap sz))∨Pr b,E:=E,F:=F}
structure Lb where
 b:Nat→Prop
 E:Nat→Option Loc
instance:CoeFun Lb (fun _=>Nat→Prop):=⟨Lb.b⟩
def kv(F:Nat→FuncId)(lb:Nat→Prop)(w:World):Prop:=F 999998=0∨(F 999999<w.heap.size∧¬lb (F 999999)∧∃m,w.cell? ⟨F 999999,0,none⟩=some (.int .i64 m))
theorem lI{w w':World}{b:Nat}(h:w'.heap[b]? =w.heap[b]?):w'.cell? ⟨b,0,none⟩=w.cell? ⟨b,0,none⟩:=by
 simp only[World.cell?,h]
structure Rel (F:Nat→FuncId) (Pr:Nat→Prop) (w0:World) (lb:Lb) (N:Nat) (E:Nat→Option Loc) (n:Nat→Prop) (t:List (Nat×V)) (o:List (Nat×Ob)) (a:Act) (w:World):Prop where
 os:w.os=w0.os
 tape:w.tape=w0.tape
 output:w.output=w0.output
 size:w0.heap.size≤w.heap.size
 frame:∀b,b<w0.heap.size→¬lb b→w.heap[b]? =w0.heap[b]?
 defers:a.defers=[]
 nt:a.tmps.size=N
 tmps:∀d v,get t d=some v→bm (cx F Pr E o w) v (a.tmps.getD d undef)
 cS:∀id ob,get o id=some ob→n ob.ar∧∃l,E ob.ar=some l∧cD (cx F Pr E o w) ob l
 place:∀id ob b cap sz,get o id=some ob→E ob.ar=some (.bQ b cap sz)→b<w.heap.size∧(w0.heap.size≤b∨lb b)
 de:∀id id' ob ob' b cap sz cap' sz',get o id=some ob→get o id'=some ob'→E ob.ar=some (.bQ b cap sz)→E ob'.ar=some (.bQ b cap' sz')→id=id'
 fresh:∀ar l,E ar=some l→n ar
 pr:(∀b,Pr b→b<w0.heap.size∧¬lb b)∧kv F lb w0
 ext:∀ar l,lb.E ar=some l→E ar=some l
structure Fr (n:Nat→Prop) (nn:Nat) (n':Nat→Prop):Prop where
 new:∀k,nn≤k→k<nn+16→¬n k
 b8:∀k,n k→n' k
 add:∀k,nn≤k→k<nn+16→n' k
theorem eC{α:Type}(k:Nat)(v:α)(l:List (Nat×α)):get ((k,v)::l) k=some v:=by simp[get]
theorem ea{α:Type}{k x:Nat}(h:x≠k)(v:α)(l:List (Nat×α)):get ((k,v)::l) x=get l x:=by simp[get,h]
theorem gK{α:Type}(ks:List Nat)(l:List (Nat×α)){x:Nat}{v:α}(h:get (keep ks l) x=some v):get l x=some v:=by
 induction ks with
 |nil=>simp[keep,get] at h
 |cons k ks ih=>
  simp only[keep,List.filterMap_cons] at h;cases hk:get l k with
  |none=>simp only[hk,Option.map_none] at h;exact ih h
  |some u=>
   simp only[hk,bA,get] at h;split at h
   ·rename_i e;subst e;exact hk.trans h
   ·exact ih h
theorem get_append{α:Type}(l l':List (Nat×α))(x:Nat):get (l++l') x=(get l x).or (get l' x):=by
 induction l with
 |nil=>simp[get]
 |cons p l ih=>obtain⟨k,v⟩:=p;simp only[List.cons_append,get];split<;>simp[ih]
variable {F:Nat→FuncId} {Pr:Nat→Prop} {w0:World} {lb:Lb} {N:Nat} {E:Nat→Option Loc} {n:Nat→Prop} {t:List (Nat×V)} {o:List (Nat×Ob)} {a:Act} {w:World}
theorem kR{w:World}{ad:Addr}{v:Value}(h:w.cell? ad=some v):ad.block<w.heap.size:=World.block_lt_of_cell? w ad h
theorem dM{w w':World}{ad:Addr}(h:w'.heap[ad.block]? =w.heap[ad.block]?):w'.cell? ad=w.cell? ad:=by simp[World.cell?,h]
theorem mM(a:Act)(d:Nat)(v:Value)(x:Nat)(h:d<a.tmps.size):(a.put (some d) v).tmps.getD x undef=if x=d then v else a.tmps.getD x undef:=by
 simp only[Act.put,ax,Array.getElem?_setIfInBounds];by_cases e:d=x
 ·subst e;simp[h]
 ·have:¬x=d:=fun q=>e q.symm
  simp[e,this]
theorem Rel.put(R:Rel F Pr w0 lb N E n t o a w){dst:Option Nat}{v:V}{val:Value}(hd:∀d,dst=some d→d<N)(hv:bm (cx F Pr E o w) v val):
  Rel F Pr w0 lb N E n (cC t dst v) o (a.put dst val) w:=by
 cases dst with
 |none=>exact R
 |some d=>
  have hdn:=hd d rfl;refine {R with defers:=R.defers,nt:=by simpa [Act.put] using R.nt,tmps:= ?_}
  intro x u hu;rw[mM a d val x (by rw[R.nt];exact hdn)];simp only[cC,get] at hu;split at hu
  ·rename_i e;rw[if_pos e];cases hu;exact hv
  ·rename_i e;rw[if_neg e];exact R.tmps x u hu
theorem Rel.same(R:Rel F Pr w0 lb N E n t o a w){w':World}(hh:w'.heap=w.heap)(h1:w'.os=w.os)(h2:w'.tape=w.tape)(h3:w'.output=w.output){n':Nat→Prop}(hn:∀k,n k→n' k):
  Rel F Pr w0 lb N E n' t o a w':=by
 have K:b9 (cx F Pr E o w) (cx F Pr E o w'):=⟨rfl,fun _ _ h=>h,fun ad v hu hc=>⟨by rw[←hc];exact dM (by rw[show (cx F Pr E o w').w=w' from rfl,show (cx F Pr E o w).w=w from rfl,hh]),hu⟩⟩;refine⟨h1.trans R.os,h2.trans R.tape,h3.trans R.output,by rw[hh];exact R.size,fun b hb hl=>by rw[hh];exact R.frame b hb hl,R.defers,R.nt,fun d v hv=>(R.tmps d v hv).mono K, ?_, ?_,R.de,fun v l h=>hn _ (R.fresh v l h),R.pr,R.ext⟩
 ·intro id ob ho;obtain⟨h,l,hl,hr⟩:=R.cS id ob ho;refine⟨hn _ h,l,hl, ?_⟩;cases l with
  |nil=>exact hr
  |bQ b cap sz=>exact⟨hr.1,hr.2.mono K (by rw[show (cx F Pr E o w').w=w' from rfl,show (cx F Pr E o w).w=w from rfl,hh])⟩
 ·intro id ob b cap sz ho he;rw[hh];exact R.place id ob b cap sz ho he
theorem Rel.pA(R:Rel F Pr w0 lb N E n t o a w){w':World}{E':Nat→Option Loc}{n':Nat→Prop}{id:Nat}{ob':Ob}{l':Loc}
  (h1:w'.os=w.os) (h2:w'.tape=w.tape) (h3:w'.output=w.output) (hsz:w.heap.size≤w'.heap.size)
  (hn:∀k,n k→n' k) (hE:∀ar l,E ar=some l→E' ar=some l) (hfresh:∀ar l,E' ar=some l→n' ar)
  (hheap:∀b,b<w.heap.size→(∀ob cap sz,get o id=some ob→ob.w=true→E ob.ar=some (.bQ b cap sz)→False)→w'.heap[b]? =w.heap[b]?)
  (hl:E' ob'.ar=some l')
  (hplace:∀b cap sz,l'= .bQ b cap sz→b<w'.heap.size∧(w.heap.size≤b∨∃ob cap sz,get o id=some ob∧ob.w=true∧E ob.ar=some (.bQ b cap sz)))
  (hrep:b9 (cx F Pr E o w) (cx F Pr E' ((id,ob')::o) w')→cD (cx F Pr E' ((id,ob')::o) w') ob' l'):
  Rel F Pr w0 lb N E' n' t ((id,ob')::o) a w'∧b9 (cx F Pr E o w) (cx F Pr E' ((id,ob')::o) w'):=by
 have hEq:∀i ob l,get o i=some ob→E' ob.ar=some l→E ob.ar=some l:=by
  intro i ob l ho he;obtain⟨_,l2,hl2,_⟩:=R.cS i ob ho;have:=hE _ _ hl2;rw[he] at this;cases this;exact hl2
 have K:b9 (cx F Pr E o w) (cx F Pr E' ((id,ob')::o) w'):=by
  refine⟨rfl,hE,fun ad v hu hc=> ?_⟩;have hlt:ad.block<w.heap.size:=kR hc;have hh:w'.heap[ad.block]? =w.heap[ad.block]? :=hheap _ hlt fun ob cap sz g1 g2 g3=>hu (.inl ⟨id,ob,cap,sz,g1,g2,g3⟩)
  refine⟨(dM hh).trans hc, ?_⟩;rintro (⟨i,ob,cap,sz,g1,g2,g3⟩|hpr);rotate_left
  ·exact hu (.inr hpr)
  simp only[get] at g1;split at g1
  ·cases g1;rw[hl] at g3;cases g3;rcases (hplace _ _ _ rfl).2 with h|⟨ob,cap,sz,q1,q2,q3⟩
   ·omega
   ·exact hu (.inl ⟨id,ob,cap,sz,q1,q2,q3⟩)
  ·exact hu (.inl ⟨i,ob,cap,sz,g1,g2,hEq i ob _ g1 g3⟩)
 refine⟨⟨h1.trans R.os,h2.trans R.tape,h3.trans R.output,Nat.le_trans R.size hsz, ?_,R.defers,R.nt,fun d v hv=>(R.tmps d v hv).mono K, ?_, ?_, ?_,hfresh,R.pr,fun v l h=>hE _ _ (R.ext v l h)⟩,K⟩
 ·intro b hb hlb;refine(hheap b (Nat.lt_of_lt_of_le hb R.size) fun ob cap sz g1 g2 g3=> ?_).trans (R.frame b hb hlb);rcases (R.place id ob b cap sz g1 g3).2 with h|h
  ·omega
  ·exact hlb h
 ·intro i ob hi;simp only[get] at hi;split at hi
  ·cases hi;exact⟨hfresh _ _ hl,l',hl,hrep K⟩
  ·rename_i hne;obtain⟨hv,l,hl2,hr⟩:=R.cS i ob hi;refine⟨hn _ hv,l,hE _ _ hl2, ?_⟩;cases l with
   |nil=>exact hr
   |bQ b cap sz=>
    refine⟨hr.1,hr.2.mono K (hheap b (R.place i ob b cap sz hi hl2).1 fun ob2 cap2 sz2 g1 g2 g3=>hne (R.de i id ob ob2 b cap sz cap2 sz2 hi g1 hl2 g3))⟩
 ·intro i ob b cap sz hi he;simp only[get] at hi;split at hi
  ·cases hi;rw[hl] at he;cases he;obtain⟨q1,q2⟩:=hplace _ _ _ rfl;refine⟨q1, ?_⟩;rcases q2 with h|⟨ob,cap2,sz2,g1,g2,g3⟩
   ·exact .inl (Nat.le_trans R.size h)
   ·exact(R.place id ob b cap2 sz2 g1 g3).2
  ·obtain⟨q1,q2⟩:=R.place i ob b cap sz hi (hEq i ob _ hi he);exact⟨Nat.lt_of_lt_of_le q1 hsz,q2⟩
 ·have side:∀i ob b cap sz cap' sz',i≠id→get o i=some ob→E' ob.ar=some (.bQ b cap sz)→l'= .bQ b cap' sz'→False:=by
   intro i ob b cap sz cap' sz' hne hi he hl';have he':=hEq i ob _ hi he;rcases (hplace _ _ _ hl').2 with h|⟨ob2,cap2,sz2,g1,g2,g3⟩
   ·have:=(R.place i ob b cap sz hi he').1;omega
   ·exact hne (R.de i id ob ob2 b cap sz cap2 sz2 hi g1 he' g3)
  intro i j ob ob2 b cap sz cap' sz' hi hj he hf;simp only[get] at hi hj;split at hi<;>split at hj
  ·rename_i e1 e2;exact e1.trans e2.symm
  ·rename_i e1 e2;cases hi;rw[hl] at he;exact(side j ob2 b cap' sz' cap sz e2 hj hf (by cases he;rfl)).elim
  ·rename_i e1 e2;cases hj;rw[hl] at hf;exact(side i ob b cap sz cap' sz' e1 hi he (by cases hf;rfl)).elim
  ·exact R.de i j ob ob2 b cap sz cap' sz' hi hj (hEq i ob _ hi he) (hEq j ob2 _ hj hf)
theorem Rel.sub(R:Rel F Pr w0 lb N E n t o a w){t':List (Nat×V)}{o':List (Nat×Ob)}(ht:∀d v,get t' d=some v→get t d=some v)
  (ho:∀id ob',get o' id=some ob'→∃ob,get o id=some ob∧ob'.ar=ob.ar∧ob'.sz=ob.sz∧ob'.bx=ob.bx∧ob'.rows=ob.rows∧(ob'.w=true→ob.w=true)):
  Rel F Pr w0 lb N E n t' o' a w:=by
 have K:b9 (cx F Pr E o w) (cx F Pr E o' w):=by
  refine⟨rfl,fun _ _ h=>h,fun ad v hu hc=>⟨hc, ?_⟩⟩;rintro (⟨i,ob',cap,sz,g1,g2,g3⟩|hpr)
  ·obtain⟨ob,q1,q2,_,_,_,q3⟩:=ho i ob' g1;exact hu (.inl ⟨i,ob,cap,sz,q1,q3 g2,by rw[←q2];exact g3⟩)
  ·exact hu (.inr hpr)
 refine {R with tmps:=fun d v hv=>(R.tmps d v (ht d v hv)).mono K,cS:= ?_,place:= ?_,de:= ?_}
 ·intro id ob' h;obtain⟨ob,q1,q2,q3,q4,q5,q6⟩:=ho id ob' h;obtain⟨hv,l,hl,hr⟩:=R.cS id ob q1;refine⟨by rw[q2];exact hv,l,by rw[q2];exact hl, ?_⟩;cases l with
  |nil=>exact⟨by rw[q5];exact hr.1,by rw[q4];exact hr.2⟩
  |bQ b cap sz=>
   obtain⟨e,h1,h2,hcl,h3⟩:=hr;refine⟨by rw[q3];exact e, ?_, ?_, ?_, ?_⟩
   ·rw[q5];exact h1
   ·rw[q5,q3];exact h2
   ·rw[q5,q4];exact hcl
   ·obtain⟨cs,e1,fr,m1,m2,m3,m4⟩:=h3;refine⟨cs,e1,fr,m1,by rw[q3];exact m2,m3, ?_⟩;rw[q5,q3];intro i j r t hr ht;obtain⟨v,hv,hrep⟩:=m4 i j r t hr ht;exact⟨v,hv,hrep.mono K⟩
 ·intro id ob' b cap sz h he;obtain⟨ob,q1,q2,_⟩:=ho id ob' h;exact R.place id ob b cap sz q1 (by rw[←q2];exact he)
 ·intro i j ob ob2 b cap sz cap' sz' hi hj he hf;obtain⟨x,q1,q2,_⟩:=ho i ob hi;obtain⟨y,r1,r2,_⟩:=ho j ob2 hj;exact R.de i j x y b cap sz cap' sz' q1 r1 (by rw[←q2];exact he) (by rw[←r2];exact hf)
theorem Rel.keep(R:Rel F Pr w0 lb N E n t o a w)(kt ko:List Nat):Rel F Pr w0 lb N E n (keep kt t) (keep ko o) a w:=
 R.sub (fun _ _ h=>gK _ _ h) fun _ ob h=>⟨ob,gK _ _ h,rfl,rfl,rfl,rfl,fun h=>h⟩
theorem mL(ids:List Nat)(o:List (Nat×Ob))(x:Nat):get (fp ids o) x=(get o x).map fun ob=>if x∈ids then {ob with w:=false} else ob:=by
 induction o with
 |nil=>rfl
 |cons p o ih=>
  obtain⟨k,ob⟩:=p;simp only[fp,aI,get] at ih ⊢;split
  ·rename_i e;subst e;rfl
  ·exact ih
theorem Rel.shut(R:Rel F Pr w0 lb N E n t o a w)(ids:List Nat):Rel F Pr w0 lb N E n t (fp ids o) a w:=by
 refine R.sub (fun _ _ h=>h) fun id ob' h=> ?_
 rw[mL] at h;cases hg:get o id with
 |none=>simp[hg] at h
 |some ob=>
  simp only[hg,bA,af] at h;subst h;refine⟨ob,rfl, ?_⟩;split<;>simp
end Mx
namespace Mx
open Go
def pk:T→Value→Bool
 | .int k n,.int k' n'=>k==k'&&n==n'
 | .bool b,.bool b'=>b==b'
 | .str s,.string s'=>s.data.toList==s'.data.toList
 | .cA _,.slice none 0 0=>true
 |_,_=>false
def iC:List T→List Value→Bool
 |[],[]=>true
 |t::ts,v::vs=>pk t v&&iC ts vs
 |_,_=>false
theorem kx{X:Cx}{t:T}{v:Value}(h:pk t v=true):bc X t v:=by
 unfold pk at h;split at h
 ·simp at h;obtain⟨rfl,rfl⟩:=h;exact .int _ _
 ·simp at h;subst h;exact .bool _
 ·rename_i s s';have:s=s':=by
   obtain⟨⟨x⟩⟩:=s;obtain⟨⟨y⟩⟩:=s';simp at h;subst h;rfl
  subst this;exact .str _
 ·exact .cA _
 ·cases h
theorem jQ{t:T}{v:Value}(h:pk t v=true):aH t:=by
 unfold pk at h;split at h
 ·exact .int _ _
 ·exact .bool _
 ·exact .str _
 ·exact .cA _
 ·cases h
theorem fy:∀{ts:List T} {vs:List Value},iC ts vs=true→∀(i:Nat) (t:T),ts[i]? =some t→aH t
 |[],_,_,i,t,h=>by simp at h
 |t0::ts,v::vs,h,i,t,hi=>by
  simp only[iC,ae] at h;cases i with
  |zero=>simp at hi;subst hi;exact jQ h.1
  |succ i=>exact fy h.2 i t (by simpa using hi)
 |_::_,[],h,_,_,_=>by simp[iC] at h
theorem i_{X:Cx}:∀{ts:List T} {vs:List Value},iC ts vs=true→aP X ts vs
 |[],[],_=> .nil X
 |t::ts,v::vs,h=>by
  simp only[iC,ae] at h;exact .cons (kx h.1) (i_ h.2)
 |[],_::_,h=>by simp[iC] at h
 |_::_,[],h=>by simp[iC] at h
def okO(F:Nat→FuncId):O→Operand→Bool
 | .t n,.tmp m=>n==m
 | .k t,.const v=>pk t v
 | .fn f,.func g=>F f==g
 |_,_=>false
def fU(F:Nat→FuncId):List O→List Operand→Bool
 |[],[]=>true
 |x::xs,y::ys=>okO F x y&&fU F xs ys
 |_,_=>false
def g_(F:Nat→FuncId):Option O→Option Operand→Bool
 |none,none=>true
 |some x,some y=>okO F x y
 |_,_=>false
theorem bc.cJ{X:Cx}{k:IntKind}{n:Int}{v:Value}(h:bc X (.int k n) v):v= .int k n:=by cases h;rfl
theorem bc.fe{X:Cx}{b:Bool}{v:Value}(h:bc X (.bool b) v):v= .bool b:=by cases h;rfl
theorem bc.dC{X:Cx}{s:ByteArray}{v:Value}(h:bc X (.str s) v):v= .string s:=by cases h;rfl
theorem bm.gR{X:Cx}{t:T}{v:Value}(h:bm X (.c t) v):bc X t v:=by cases h;assumption
variable {P:Program} {F:Nat→FuncId} {Pr:Nat→Prop} {w0:World} {lb:Lb} {N:Nat} {E:Nat→Option Loc} {n:Nat→Prop} {t:List (Nat×V)} {o:List (Nat×Ob)} {a:Act} {w:World}
theorem bz(R:Rel F Pr w0 lb N E n t o a w){x:O}{y:Operand}(h:okO F x y=true){v:V}(hv:look t x=some v):bm (cx F Pr E o w) v (a.eval y):=by
 unfold okO at h;split at h
 ·simp at h;subst h;exact R.tmps _ _ hv
 ·simp only[look,af] at hv;subst hv;exact .c _ _ (kx h)
 ·simp at h;subst h;simp only[look,af] at hv;subst hv;exact .c _ _ (.fn _ [] #[] rfl fun i t v ht=>by simp at ht)
 ·cases h
theorem aG(R:Rel F Pr w0 lb N E n t o a w){x:O}{y:Operand}(h:okO F x y=true){v:T}(hv:a8 t x=some v):bc (cx F Pr E o w) v (a.eval y):=by
 unfold a8 at hv;split at hv
 ·rename_i u hu;cases hv;exact(bz R h hu).gR
 ·cases hv
theorem ia(R:Rel F Pr w0 lb N E n t o a w){x:O}{y:Operand}(h:okO F x y=true){k:IntKind}{i:Int}(hv:fE t x=some (k,i)):a.eval y= .int k i:=by
 unfold fE at hv;split at hv
 ·rename_i u hu;cases hv;exact(bz R h ‹_›).gR.cJ
 ·cases hv
theorem cM(R:Rel F Pr w0 lb N E n t o a w){x:O}{y:Operand}(h:okO F x y=true){b:Bool}(hv:dp t x=some b):a.eval y= .bool b:=by
 unfold dp at hv;split at hv
 ·cases hv;exact(bz R h ‹_›).gR.fe
 ·cases hv
theorem cd(R:Rel F Pr w0 lb N E n t o a w){x:O}{y:Operand}(h:okO F x y=true){m:Nat}(hv:cT t x=some m):∃k,a.eval y= .int k (m:Int):=by
 unfold cT at hv;split at hv
 ·rename_i k i hu;split at hv
  ·cases hv;have:=(bz R h hu).gR.cJ;exact⟨k,by rw[this,Int.toNat_of_nonneg ‹_›]⟩
  ·cases hv
 ·cases hv
theorem cN(R:Rel F Pr w0 lb N E n t o a w){x:O}{y:Operand}(h:okO F x y=true){ts:List T}(hv:dq t x=some ts):aP (cx F Pr E o w) ts (a.eval y).cells.toList:=by
 unfold dq at hv;split at hv
 ·exact(bz R h ‹_›).cells hv
 ·cases hv
theorem nW{op:BinOp}{x y r:T}(h:bin op x y=some r){X:Cx}{xt:TypeId}{vx vy:Value}(hx:bc X x vx)(hy:bc X y vy)(u v:Operand):
  ∃val,(do eqGuard op xt u v vx vy;binOp op xt vx vy:Sem Value).run P w= .ok val w∧bc X r val:=by
 unfold bin at h;split at h
 ·rename_i k x k' y;cases hx;cases hy;have hg:(eqGuard op xt u v (.int k x) (.int k' y)).run P w= .ok () w:=by
   unfold eqGuard;split<;>simp
  simp only[Sem.run_bind,hg,Result.andThen_ok];split at h
  ·rename_i hs;unfold gw at h;split at h
   ·cases h
   ·rename_i hn;cases op<;>simp[fZ] at hs<;>simp only[af] at h<;>subst h<;>
     exact⟨_,by simp[binOp,Op.shift,hn],.int _ _⟩
  ·rename_i hs;split at h
   ·rename_i hk;subst hk;cases op<;>simp[fZ] at hs<;>simp only[kb] at h<;>
     (try (split at h;·cases h))<;>first
     |(cases h;done)
     |(simp only[af] at h;subst h
       first
       |(refine⟨_, ?_,.int _ _⟩;simp[binOp,Op.intArith];done)
       |(refine⟨_, ?_,.int _ _⟩;simp[binOp,Op.intDiv, *];done)
       |(refine⟨_, ?_,.int _ _⟩;simp only[binOp,ne_eq,not_true_eq_false,if_false,Op.intBits];rfl)
       |(refine⟨_, ?_,.bool _⟩;simp[binOp,Op.intCmp];done)
       |(refine⟨_, ?_,.bool _⟩;simp[binOp,Op.intCmp];rw[Bool.eq_iff_iff];simp;done))
   ·cases h
 ·rename_i x y;cases hx;cases hy;have hg:(eqGuard op xt u v (.string x) (.string y)).run P w= .ok () w:=by
   unfold eqGuard;split<;>simp
  have hb:∀a b,cH a b=Op.bytesLess a b:=by
   intro a
   induction a with
   |nil=>intro b;cases b<;>rfl
   |cons c a ih=>intro b;cases b with|nil=>rfl|cons d b=>simp[cH,Op.bytesLess,ih]
  simp only[Sem.run_bind,hg,Result.andThen_ok];cases op<;>simp only[bR] at h<;>first
   |(cases h;done)
   |(split at h
     ·rename_i hs;simp only[af] at h;subst h;refine⟨_, ?_,.str _⟩;have:¬(((x.size+y.size:Nat):Int)>IntKind.i64.max):=by
       have:IntKind.i64.max=9223372036854775807:=by decide
       rw[this];omega
      simp only[binOp,Op.stringOp];rw[if_neg this];rfl
     ·cases h)
   |(simp only[af] at h;subst h
     exact⟨_,by simp[binOp,Op.stringOp,hb],.bool _⟩)
 ·cases h
end Mx
namespace Mx
open Go
def cn(P:Program)(t:TypeId):Option Bool:=
 match P.underlying t with
 |some (.struct _)=>some true
 |some (.array _ _)=>some true
 |some _=>some false
 |none=>none
def bw(P:Program)(t:TypeId):Option Nat:=(P.info? t).map (·.size)
def dB(P:Program)(t:TypeId):Option Nat:=(P.info? t).map (·.bytes)
def dU(P:Program)(t:TypeId):Option Value:=(P.info? t).bind (·.zero)
variable {P:Program} {F:Nat→FuncId} {Pr:Nat→Prop} {w0:World} {lb:Lb} {N:Nat} {E:Nat→Option Loc} {n:Nat→Prop} {t:List (Nat×V)} {o:List (Nat×Ob)} {a:Act} {w:World}
theorem dc{t:TypeId}{i:TypeInfo}(h:P.info? t=some i)(w:World):(typeInfo t).run P w= .ok i w:=by simp[typeInfo,h]
theorem bT{t:TypeId}{b:Bool}(h:cn P t=some b)(w:World):(isAgg t).run P w= .ok b w:=by
 unfold cn at h;split at h<;>simp only[af,reduceCtorEq] at h
 all_goals
  subst h;rename_i hu;simp[isAgg,run_underlying hu]
theorem aN{t:TypeId}{k:Nat}(h:bw P t=some k)(w:World):(Go.sizeOf t).run P w= .ok k w:=by
 unfold bw at h;cases hi:P.info? t with
 |none=>simp[hi] at h
 |some i=>simp[hi] at h;simp[Go.sizeOf,dc hi,h]
theorem bS{t:TypeId}{v:Value}(h:dU P t=some v)(w:World):(zeroValue t).run P w= .ok v w:=by
 unfold dU at h;cases hi:P.info? t with
 |none=>simp[hi] at h
 |some i=>simp[hi] at h;simp[zeroValue,dc hi,h]
theorem bO(R:Rel F Pr w0 lb N E n t o a w){id ar:Nat}{ob:Ob}(hg:get o id=some ob)(hv:ob.ar=ar){b cap sz:Nat}(hE:E ar=some (.bQ b cap sz)):
  sz=ob.sz∧fg (cx F Pr E o w) ob b cap:=by
 obtain⟨_,l,hl,hr⟩:=R.cS id ob hg;rw[hv,hE] at hl;cases hl;exact hr
theorem hX(R:Rel F Pr w0 lb N E n t o a w){x:T}{v:Value}(hx:bc (cx F Pr E o w) x v){r:List T}{j:Nat}(hp:place o x=some (r,j)):
  ∃ad,v= .pointer (some ad)∧∀(q:Nat) (t:T),r[j+q]? =some t→∃u,w.cell? (ad.add q)=some u∧bc (cx F Pr E o w) t u:=by
 unfold place at hp;split at hp
 ·rename_i id ar i jj;split at hp
  ·rename_i ob hg;split at hp
   ·rename_i hv;split at hp
    ·rename_i r' hr;simp only[af,ah] at hp;obtain⟨rfl,rfl⟩:=hp;cases hx with
     |ptr _ _ _ _ b cap sz hE=>
      obtain⟨rfl,h1,h2,hcl,cs,e,fr,m1,m2,m3,m4⟩:=bO R hg hv hE;refine⟨_,rfl,fun q t ht=> ?_⟩;obtain⟨u,hu,hr2⟩:=m4 i (jj+q) r' t hr ht;refine⟨u, ?_,hr2⟩;rw[add_add,cw];have m1':w.heap[b]? =some (.cells cs e fr):=m1;rw[Nat.add_assoc];simp[World.cell?,m1',hu]
    ·cases hp
   ·cases hp
  ·cases hp
 ·rename_i cells jj;simp only[af,ah] at hp;obtain⟨rfl,rfl⟩:=hp;cases hx with
  |vp _ _ ad vs hcell hrep hcl=>exact⟨ad,rfl,fun q t ht=>⟨vs q,(hcell q t ht).2,hrep q t ht⟩⟩
 ·cases hp
theorem iG{ty:TypeId}{ad:Addr}{cs:List Value}(ha:cn P ty=some true)(hs:bw P ty=some cs.length)
  (h:∀(q:Nat) (v:Value),cs[q]? =some v→w.cell? (ad.add q)=some v):(Instr.loadAt ty (.pointer (some ad))).run P w= .ok (.agg cs.toArray) w:=by
 simp only[Instr.loadAt,Instr.sureAddr,loadVar,Sem.run_bind,Sem.run_pure,Result.andThen_ok,bT ha,if_true,aN hs];rw[run_loadCells_list w ad cs h];simp
theorem iF{ty:TypeId}{ad:Addr}{v:Value}(ha:cn P ty=some false)(h:w.cell? ad=some v):(Instr.loadAt ty (.pointer (some ad))).run P w= .ok v w:=by
 simp[Instr.loadAt,Instr.sureAddr,loadVar,bT ha,h]
theorem hR{X:Cx}{r:List T}{j k:Nat}{ad:Addr}(h:∀(q:Nat) (t:T),r[j+q]? =some t→∃u,X.w.cell? (ad.add q)=some u∧bc X t u)(hk:j+k≤r.length):
  ∃cs:List Value,cs.length=k∧aP X ((r.drop j).take k) cs∧∀(q:Nat) (v:Value),cs[q]? =some v→X.w.cell? (ad.add q)=some v:=by
 induction k generalizing j ad r with
 |zero=>exact⟨[],rfl,by simpa using aP.nil X,fun q v hv=>by simp at hv⟩
 |succ k ih=>
  have hlt:j<r.length:=by omega
  obtain⟨u,hu,hr⟩:=h 0 r[j] (by simp[hlt]);have h':∀(q:Nat) (t:T),r[j+1+q]? =some t→∃u,X.w.cell? ((ad.add 1).add q)=some u∧bc X t u:=by
   intro q t ht;obtain⟨u,hu,hr⟩:=h (1+q) t (by rw[←ht];congr 1;omega);exact⟨u,by rw[add_add];exact hu,hr⟩
  obtain⟨cs,hl,hrep,hc⟩:=ih h' (by omega);refine⟨u::cs,by simp[hl], ?_, ?_⟩
  ·rw[aW hlt,List.take_succ_cons];exact .cons hr hrep
  ·intro q v hv;cases q with
   |zero=>simp at hv;subst hv;exact hu
   |succ q=>
    simp at hv;have:=hc q v hv;rw[add_add] at this;rw[Nat.add_comm q 1];exact this
theorem bf{b:Nat}{e:TypeId}{fr:Nat×Nat}:∀(vs:List Value) (i off:Nat) (cs:Array Value) (w:World),w.heap[b]? =some (.cells cs e fr)→off+i+vs.length≤cs.size→
  (∀o,o≤cs.size→¬(fr.1≤o∧o<fr.2))→(∀v∈vs,v.oneCell'=true)→
  ∃w' cs',(storeCells ((aY b).add off) vs i).run P w= .ok () w'∧w'.os=w.os∧w'.tape=w.tape∧w'.output=w.output∧w'.heap.size=w.heap.size∧
   (∀k,k≠b→w'.heap[k]? =w.heap[k]?)∧w'.heap[b]? =some (.cells cs' e fr)∧cs'.size=cs.size∧
   ∀q,cs'[q]? =if off+i≤q∧q<off+i+vs.length then vs[q-(off+i)]? else cs[q]?
 |[],i,off,cs,w,hb,hl,hf,h1=>by
  refine⟨w,cs,by simp[storeCells],rfl,rfl,rfl,rfl,fun _ _=>rfl,hb,rfl,fun q=> ?_⟩;rw[if_neg (by simp)]
 |v::vs,i,off,cs,w,hb,hl,hf,h1=>by
  simp only[al] at hl;have ha:((aY b).add off).add i=⟨b,off+i,none⟩:=by rw[add_add,cw]
  have hlt:off+i<cs.size:=by omega
  have hc:w.cell? ⟨b,off+i,none⟩=some cs[off+i]:=by simp[World.cell?,hb,hlt]
  have hfz:w.frozen? ⟨b,off+i,none⟩=false:=by
   have:=hf (off+i) (Nat.le_of_lt hlt);simp only[World.frozen?,hb];simp only[not_and] at this;simp only[Bool.and_eq_false_iff,decide_eq_false_iff_not];by_cases q:fr.1≤off+i
   ·exact .inr (this q)
   ·exact .inl q
  have hs:(store (((aY b).add off).add i) v).run P w= .ok () (w.setCell ⟨b,off+i,none⟩ v):=by
   rw[ha,run_store P w _ v .plain (h1 v (by simp)),hc];simp[hfz]
  have hb':(w.setCell ⟨b,off+i,none⟩ v).heap[b]? =some (.cells (cs.setIfInBounds (off+i) v) e fr):=by
   simp only[World.setCell,Array.getElem?_modify,hb];simp
  obtain⟨w',cs',g1,g2,g3,g4,g5,g6,g7,g8,g9⟩:=bf vs (i+1) off (cs.setIfInBounds (off+i) v) _ hb' (by simpa using(by omega)) (by simpa using hf) (fun u hu=>h1 u (by simp[hu]));refine⟨w',cs', ?_,g2,g3,g4,by rw[g5];simp, ?_,g7,by rw[g8];simp,fun q=> ?_⟩
  ·simp only[storeCells,Sem.run_bind,hs,Result.andThen_ok];exact g1
  ·intro k hk;rw[g6 k hk];simp only[World.setCell,Array.getElem?_modify];rw[if_neg (fun e=>hk e.symm)]
  ·rw[g9 q,Array.getElem?_setIfInBounds];by_cases r:off+(i+1)≤q∧q<off+(i+1)+vs.length
   ·rw[if_pos r,if_pos ⟨by omega,by simp only[al];omega⟩];obtain⟨p,rfl⟩:∃p,q=off+i+(p+1):=⟨q-(off+i)-1,by omega⟩
    rw[show off+i+(p+1)-(off+i)=p+1 from by omega,show off+i+(p+1)-(off+(i+1))=p from by omega];simp
   ·rw[if_neg r];by_cases e:off+i=q
    ·subst e;rw[if_pos rfl,if_pos hlt,if_pos ⟨Nat.le_refl _,by simp⟩];simp
    ·rw[if_neg e,if_neg (by simp only[al];omega)]
end Mx
namespace Mx
open Go
variable {P:Program} {F:Nat→FuncId} {Pr:Nat→Prop} {w0:World} {lb:Lb} {N:Nat} {E:Nat→Option Loc} {n:Nat→Prop} {t:List (Nat×V)} {o:List (Nat×Ob)} {a:Act} {w:World}
theorem cU{sz:Nat}:∀{rows:List (List T)},(∀(i:Nat) (r:List T),rows[i]? =some r→r.length=sz)→∀{i j:Nat} {r:List T} {t:T},rows[i]? =some r→r[j]? =some t→rows.flatten[i*sz+j]? =some t
 |[],_,i,j,r,t,hr,_=>by simp at hr
 |r0::rows,hw,i,j,r,t,hr,ht=>by
  have h0:=hw 0 r0 (by simp);cases i with
  |zero=>
   simp at hr;subst hr;have:j<r0.length:=(List.getElem?_eq_some_iff.1 ht).1;simp only[List.flatten_cons,Nat.zero_mul,Nat.zero_add];rw[List.getElem?_append_left this];exact ht
  |succ i=>
   have ih:=cU (rows:=rows) (fun i r h=>hw (i+1) r (by simpa using h)) (i:=i) (j:=j) (by simpa using hr) ht;simp only[List.flatten_cons];rw[List.getElem?_append_right (by rw[h0,Nat.succ_mul];omega),h0,←ih];congr 1;rw[Nat.succ_mul];omega
theorem bX{sz:Nat}:∀{rows:List (List T)},(∀(i:Nat) (r:List T),rows[i]? =some r→r.length=sz)→rows.flatten.length=rows.length*sz
 |[],_=>by simp
 |r0::rows,hw=>by
  have h0:=hw 0 r0 (by simp);have ih:=bX (rows:=rows) (fun i r h=>hw (i+1) r (by simpa using h));simp only[List.flatten_cons,bt,al,ih,h0,Nat.succ_mul];omega
theorem gZ{X:Cx}{ob:Ob}{b cap:Nat}{cl:List Value}{cs:Array Value}{e:TypeId}{fr:Nat×Nat}(hl:ob.rows.length≤cap)
  (hw:∀(i:Nat) (r:List T),ob.rows[i]? =some r→r.length=ob.sz) (hr:aP X ob.rows.flatten cl) (hm:X.w.heap[b]? =some (.cells cs e fr)) (hs:cs.size=cap*ob.sz)
  (hf:∀o,o≤cs.size→¬(fr.1≤o∧o<fr.2)) (hp:∀(q:Nat) (v:Value),cl[q]? =some v→cs[q]? =some v)
  (hcl:ob.bx=false→∀(i j:Nat) (r:List T) (t:T),ob.rows[i]? =some r→r[j]? =some t→aH t):fg X ob b cap:=by
 refine⟨hl,hw,hcl,cs,e,fr,hm,hs,hf,fun i j r t h1 h2=> ?_⟩;have h3:=cU hw h1 h2;have hlt:i*ob.sz+j<cl.length:=by rw[←hr.1];exact(List.getElem?_eq_some_iff.1 h3).1
 exact⟨cl[i*ob.sz+j],hp _ _ (by simp[hlt]),hr.2 _ _ _ h3 (by simp[hlt])⟩
def E1(E:Nat→Option Loc)(ar:Nat)(l:Loc):Nat→Option Loc:=fun v=>if v=ar then some l else E v
theorem kY(E:Nat→Option Loc)(ar:Nat)(l:Loc):E1 E ar l ar=some l:=by simp[E1]
theorem iY{E:Nat→Option Loc}{n:Nat→Prop}{ar:Nat}{l:Loc}(hf:∀v l,E v=some l→n v)(hn:¬n ar):∀v l',E v=some l'→E1 E ar l v=some l':=by
 intro v l' h;have:=hf v l' h;have hne:¬v=ar:=by rintro rfl;exact hn this
 simp only[E1];rw[if_neg hne];exact h
theorem gW{E:Nat→Option Loc}{n n':Nat→Prop}{ar:Nat}{l:Loc}(hf:∀v l,E v=some l→n v)(hn:∀k,n k→n' k)(hv:n' ar):∀v l',E1 E ar l v=some l'→n' v:=by
 intro v l' h;simp only[E1] at h;split at h
 ·rename_i e;rw[e];exact hv
 ·exact hn _ (hf v l' h)
theorem Rel.gA(R:Rel F Pr w0 lb N E n t o a w){w':World}(id ar:Nat)(n':Nat→Prop)(ob:Ob)(hver:ob.ar=ar)(hn:Fr n ar n')(cl:List Value)(cs:Array Value)(e:TypeId)(fr:Nat×Nat)(cap:Nat)
  (h1:w'.os=w.os) (h2:w'.tape=w.tape) (h3:w'.output=w.output) (hh:w'.heap=w.heap.push (.cells cs e fr))
  (hl:ob.rows.length≤cap) (hw:∀(i:Nat) (r:List T),ob.rows[i]? =some r→r.length=ob.sz) (hr:aP (cx F Pr E o w) ob.rows.flatten cl)
  (hs:cs.size=cap*ob.sz) (hf:∀o,o≤cs.size→¬(fr.1≤o∧o<fr.2)) (hp:∀(q:Nat) (v:Value),cl[q]? =some v→cs[q]? =some v)
  (hcl:ob.bx=false→∀(i j:Nat) (r:List T) (t:T),ob.rows[i]? =some r→r[j]? =some t→aH t):
  Rel F Pr w0 lb N (E1 E ar (.bQ w.heap.size cap ob.sz)) n' t ((id,ob)::o) a w'∧b9 (cx F Pr E o w) (cx F Pr (E1 E ar (.bQ w.heap.size cap ob.sz)) ((id,ob)::o) w'):=by
 refine R.pA h1 h2 h3 (by rw[hh];simp) hn.b8 (iY R.fresh (hn.new _ (Nat.le_refl _) (by omega))) (gW R.fresh hn.b8 (hn.add _ (Nat.le_refl _) (by omega))) ?_ (l':= .bQ w.heap.size cap ob.sz) (by rw[hver,kY]) ?_ ?_
 ·intro b hb _;rw[hh,Array.getElem?_push];rw[if_neg (by omega)]
 ·intro b cap' sz' hq;cases hq;exact⟨by rw[hh];simp,.inl (Nat.le_refl _)⟩
 ·intro K;refine⟨rfl,gZ hl hw (hr.mono K) (cs:=cs) (e:=e) (fr:=fr) ?_ hs hf hp hcl⟩;show w'.heap[w.heap.size]? =_;rw[hh];simp
theorem Rel.mr(R:Rel F Pr w0 lb N E n t o a w)(id ar:Nat)(n':Nat→Prop)(ob:Ob)(hver:ob.ar=ar)(hn:Fr n ar n')(hr:ob.rows=[])(hb:ob.bx=false):
  Rel F Pr w0 lb N (E1 E ar .nil) n' t ((id,ob)::o) a w∧b9 (cx F Pr E o w) (cx F Pr (E1 E ar .nil) ((id,ob)::o) w):=by
 refine R.pA rfl rfl rfl (Nat.le_refl _) hn.b8 (iY R.fresh (hn.new _ (Nat.le_refl _) (by omega))) (gW R.fresh hn.b8 (hn.add _ (Nat.le_refl _) (by omega))) (fun b hb _=>rfl) (l':= .nil) (by rw[hver,kY]) (fun b cap sz h=>by cases h) (fun K=>⟨hr,hb⟩)
theorem fo{r xs:List T}{j:Nat}(h:j+xs.length≤r.length)(q:Nat):(setAt r j xs)[q]? =if j≤q∧q<j+xs.length then xs[q-j]? else r[q]? :=by
 unfold setAt;by_cases h1:q<j
 ·rw[if_neg (by omega),ba,List.getElem?_append_left (by simp;omega),aC,if_pos h1]
 ·by_cases h2:q<j+xs.length
  ·rw[if_pos ⟨by omega,h2⟩,List.getElem?_append_left (by simp;omega),List.getElem?_append_right (by simp;omega)];simp;rw[Nat.min_eq_left (by omega)]
  ·rw[if_neg (by omega),List.getElem?_append_right (by simp;omega),aL];congr 1;simp;omega
theorem dG{r xs:List T}{j:Nat}(h:j+xs.length≤r.length):(setAt r j xs).length=r.length:=by
 unfold setAt;simp;omega
theorem bH{i i' sz j:Nat}(h:i'<i)(hj:j<sz):i'*sz+j<i*sz:=by
 have:(i'+1)*sz≤i*sz:=aE _ h;rw[Nat.add_mul,Nat.one_mul] at this;omega
theorem Rel.write(R:Rel F Pr w0 lb N E n t o a w){w':World}{id:Nat}{ob:Ob}{b cap i j:Nat}{r xs:List T}{vs:List Value}(hg:get o id=some ob)(hwr:ob.w=true)
  (hE:E ob.ar=some (.bQ b cap ob.sz)) (hi:ob.rows[i]? =some r) (hj:j+xs.length≤r.length) (hx:aP (cx F Pr E o w) xs vs)
  (hxc:ob.bx=false→∀(i:Nat) (t:T),xs[i]? =some t→aH t)
  (hrun:(storeCells ((aY b).add (i*ob.sz+j)) vs).run P w= .ok () w'):
  Rel F Pr w0 lb N E n t ((id,{ob with rows:=ob.rows.set i (setAt r j xs)})::o) a w'∧b9 (cx F Pr E o w) (cx F Pr E ((id,{ob with rows:=ob.rows.set i (setAt r j xs)})::o) w'):=by
 obtain⟨_,hl,hwid,hcl,cs,e,fr,m1,m2,m3,m4⟩:=bO R hg rfl hE;have hrl:=hwid i r hi;have hil:i<ob.rows.length:=(List.getElem?_eq_some_iff.1 hi).1;have hfit:i*ob.sz+j+0+vs.length≤cs.size:=by
  rw[m2,←hx.1];have:(i+1)*ob.sz≤cap*ob.sz:=aE _ (by omega);rw[Nat.add_mul,Nat.one_mul] at this;omega
 have m1':w.heap[b]? =some (.cells cs e fr):=m1;obtain⟨w2,cs',g1,g2,g3,g4,g5,g6,g7,g8,g9⟩:=bf (P:=P) vs 0 (i*ob.sz+j) cs w m1' hfit m3 hx.one;rw[hrun] at g1;cases g1;have hbl:b<w.heap.size:=(R.place id ob b cap ob.sz hg hE).1;refine R.pA g2 g3 g4 (by omega) (fun _ h=>h) (fun _ _ h=>h) R.fresh ?_ (l':= .bQ b cap ob.sz) hE ?_ ?_
 ·intro k hk hno;by_cases e:k=b
  ·subst e;exact(hno ob cap ob.sz hg hwr hE).elim
  ·exact g6 k e
 ·intro b' cap' sz' hq;cases hq;exact⟨by rw[g5];exact hbl,.inr ⟨ob,cap,ob.sz,hg,hwr,hE⟩⟩
 ·intro K;refine⟨rfl, ?_, ?_, ?_,cs',e,fr,g7,by rw[g8];exact m2,by rw[g8];exact m3, ?_⟩
  ·simpa using hl
  ·intro i' r' hr';simp only[List.getElem?_set] at hr';split at hr'
   ·rename_i q;subst q;cases hr';show (setAt r j xs).length=ob.sz;rw[dG hj];exact hrl
   ·exact hwid i' r' hr'
  ·intro hbx i' j' r' t' hr' ht';simp only[List.getElem?_set] at hr';split at hr'
   ·rename_i q;subst q;cases hr';rw[fo hj] at ht';split at ht'
    ·exact hxc hbx _ _ ht'
    ·exact hcl hbx i j' r t' hi ht'
   ·exact hcl hbx i' j' r' t' hr' ht'
  ·intro i' j' r' t' hr' ht';simp only[List.getElem?_set] at hr';simp only[Nat.add_zero] at g9;show ∃v,cs'[i'*ob.sz+j']? =some v∧_
   rw[g9];split at hr'
   ·rename_i q;subst q;cases hr';rw[fo hj] at ht';split at ht'
    ·rename_i hq;have hlt:j'-j<vs.length:=by rw[←hx.1];omega
     rw[if_pos (by rw[←hx.1];omega),show i*ob.sz+j'-(i*ob.sz+j)=j'-j from by omega];exact⟨vs[j'-j],by simp[hlt],(hx.2 _ _ _ ht' (by simp[hlt])).mono K⟩
    ·rename_i hq;rw[if_neg (by rw[←hx.1];omega)];obtain⟨v,hv,hrep⟩:=m4 i j' r t' hi ht';exact⟨v,hv,hrep.mono K⟩
   ·rename_i hne;have hw':=hwid i' r' hr';have hj':j'<ob.sz:=by rw[←hw'];exact(List.getElem?_eq_some_iff.1 ht').1
    have hx2:=hx.1;have:¬(i*ob.sz+j≤i'*ob.sz+j'∧i'*ob.sz+j'<i*ob.sz+j+vs.length):=by
     rcases Nat.lt_or_gt_of_ne hne with h|h
     ·have:=bH (sz:=ob.sz) (j:=j+xs.length-1) h;by_cases hz:xs.length=0
      ·omega
      ·have:=this (by omega);omega
     ·have:=bH (sz:=ob.sz) (j:=j') h hj';omega
    rw[if_neg this];obtain⟨v,hv,hrep⟩:=m4 i' j' r' t' hr' ht';exact⟨v,hv,hrep.mono K⟩
end Mx
namespace Mx
open Go
def gH(P:Program)(t:TypeId)(k:IntKind):Bool:=match P.underlying t with|some (.int k')=>k==k'|_=>false
def dZ(P:Program)(t:TypeId):Bool:=match P.underlying t with|some .string=>true|_=>false
def gd(P:Program)(t:TypeId):Bool:=match P.underlying t with|some .bool=>true|_=>false
def aV(P:Program)(t:TypeId):Option TypeId:=match P.underlying t with|some (.slice e)=>some e|_=>none
def cW(P:Program)(t:TypeId):Option (Array Field):=match P.underlying t with|some (.struct fs)=>some fs|_=>none
theorem f_{P:Program}{t:TypeId}{k:IntKind}(h:gH P t k=true):P.underlying t=some (.int k):=by
 unfold gH at h;split at h
 ·simp at h;subst h;assumption
 ·cases h
theorem ei{P:Program}{t:TypeId}(h:dZ P t=true):P.underlying t=some .string:=by
 unfold dZ at h;split at h
 ·assumption
 ·cases h
theorem gI{P:Program}{t:TypeId}(h:gd P t=true):P.underlying t=some .bool:=by
 unfold gd at h;split at h
 ·assumption
 ·cases h
theorem bh{P:Program}{t e:TypeId}(h:aV P t=some e):P.underlying t=some (.slice e):=by
 unfold aV at h;split at h
 ·cases h;assumption
 ·cases h
theorem dg{P:Program}{t:TypeId}{fs:Array Field}(h:cW P t=some fs):P.underlying t=some (.struct fs):=by
 unfold cW at h;split at h
 ·cases h;assumption
 ·cases h
def gX(P:Program)(zero:List T)(t:TypeId):Bool:=match dU P t with|some v=>iC zero v.cells.toList&&(bw P t==some zero.length)|none=>false
def placesOf(P:Program)(fs:Array Field):Option (List (Nat×Nat)):=fs.toList.mapM (fun f=>(P.info? f.type).map fun i=>(f.offset,i.size))
def eg(F:Nat→FuncId)(places:List (Nat×Nat)):List (Nat×Nat×O)→List (Nat×Operand)→Bool
 |[],[]=>true
 |(off,size,x)::ps,(i,y)::qs=>(places[i]? ==some (off,size))&&okO F x y&&eg F places ps qs
 |_,_=>false
def dJ(F:Nat→FuncId):List (Nat×O)→List (Nat×Operand)→Bool
 |[],[]=>true
 |(i,x)::ps,(j,y)::qs=>(i==j)&&okO F x y&&dJ F ps qs
 |_,_=>false
def aM(P:Program)(F:Nat→FuncId):MO→Op→Bool
 | .mv x,.move y=>okO F x y
 | .mv x,.assign y=>okO F x y
 | .np,.assign (.const (.pointer none))=>true
 | .nil _,.assign (.const (.slice none 0 0))=>true
 | .nil _,.move (.const (.slice none 0 0))=>true
 | .pick c a b,.pick c' a' b'=>okO F c c'&&okO F a a'&&okO F b b'
 | .alloc zero,.alloc e=>gX P zero e
 | .box x,.box _ y=>okO F x y
 | .build zero parts,.build t ps=>
   match cW P t with
   |some fs=>(match placesOf P fs with|some places=>gX P zero t&&eg F places parts ps.toList|none=>false)
   |none=>false
 | .cm sz len zero parts,.buildSlice t len' ps=>
   match aV P t with
   |some e=>(bw P e==some sz)&&(len==len')&&decide (0<sz)&&decide (len*sz≤16777216)&&gX P zero e&&dJ F parts ps.toList
   |none=>false
 | .jC sz len zero parts,.buildSlice t len' ps=>
   match aV P t with
   |some e=>(bw P e==some sz)&&(len==len')&&decide (0<sz)&&decide (len*sz≤16777216)&&gX P zero e&&dJ F parts ps.toList
   |none=>false
 | .load agg k x,.load t y=>okO F x y&&(cn P t==some agg)&&(bw P t==some k)
 | .store k x y,.store t x' y'=>okO F x x'&&okO F y y'&&(bw P t==some k)
 | .bin op x y,.binOp op' _ x' y' _=>(op==op')&&okO F x x'&&okO F y y'
 | .beq neg x y,.binOp op t x' y' _=>(op==if neg then .neq else .eql)&&gd P t&&okO F x x'&&okO F y y'
 | .not x,.unOp .not _ y=>okO F x y
 | .neg x,.unOp .neg _ y=>okO F x y
 | .mI k x,.convert s d y=>gH P d k&&(P.underlying s).isSome&&okO F x y
 | .pe x,.convert s d y=>(match aV P s with|some e=>gH P e .u8&&(bw P e==some 1)|none=>false)&&dZ P d&&okO F x y
 | .pq sz bytes zero x,.makeSlice t l c=>
   match aV P t with
   |some e=>(bw P e==some sz)&&decide (0<sz)&&(dB P e==some bytes)&&gX P zero e&&okO F x l&&okO F x c
   |none=>false
 | .pt sz bytes zero x y,.makeSlice t l c=>
   match aV P t with
   |some e=>(bw P e==some sz)&&decide (0<sz)&&(dB P e==some bytes)&&gX P zero e&&okO F x l&&okO F y c
   |none=>false
 | .gY x lo hi,.slice t y lo' hi' none=>dZ P t&&okO F x y&&g_ F lo lo'&&g_ F hi hi'
 | .oX sz x lo hi mx,.slice t y lo' hi' mx'=>
   match aV P t with
   |some e=>(bw P e==some sz)&&okO F x y&&g_ F lo lo'&&g_ F hi hi'&&g_ F mx mx'&&(mx.isNone||hi.isSome)
   |none=>false
 | .jg sz x lo hi,.slice t y lo' hi' none=>
   match aV P t with
   |some e=>(bw P e==some sz)&&okO F x y&&g_ F lo lo'&&g_ F hi hi'
   |none=>false
 | .eD off x,.fieldAddr s y f=>
   match cW P s with
   |some fs=>(match fs[f]? with|some fd=>(fd.offset==off)&&(match bw P fd.type with|some k=>k !=0|none=>false)&&okO F x y|none=>false)
   |none=>false
 | .da sz x ix,.indexAddr t y iy=>
   match aV P t with
   |some e=>(bw P e==some sz)&&decide (0<sz)&&okO F x y&&okO F ix iy
   |none=>false
 | .idx x ix,.index t y iy=>dZ P t&&okO F x y&&okO F ix iy
 | .og agg off k x,.field t y f=>
   match cW P t with
   |some fs=>(match fs[f]? with|some fd=>(fd.offset==off)&&(cn P fd.type==some agg)&&(bw P fd.type==some k)&&okO F x y|none=>false)
   |none=>false
 | .ext i x,.extract y j=>(i==j)&&okO F x y
 | .j8 f caps,.makeFunc (.func g) first captured=>(F f==g)&&first.isEmpty&&fU F caps captured.toList
 | .ln x,.nilCheck y=>okO F x y
 |_,_=>false
def okB(P:Program)(F:Nat→FuncId):MO→Builtin→List Operand→List TypeId→Bool
 | .len x,.len,[y],[ty]=>okO F x y&&(aV P ty).isSome
 | .dW x,.len,[y],[ty]=>okO F x y&&dZ P ty
 | .app sz bytes x y,.append,[x',y'],[t,u]=>
   match aV P t with
   |some e=>(bw P e==some sz)&&decide (0<sz)&&(dB P e==some bytes)&&(match P.underlying u with|some (.int _)=>false|some _=>true|none=>false)&&okO F x x'&&okO F y y'&&(match dU P e with|some v=>v.cells.size==sz|none=>false)
   |none=>false
 | .jI sz bytes x y,.append,[x',y'],[t,u]=>
   match aV P t with
   |some e=>(bw P e==some sz)&&decide (0<sz)&&(dB P e==some bytes)&&(match P.underlying u with|some (.int _)=>false|some _=>true|none=>false)&&okO F x x'&&okO F y y'&&(match dU P e with|some v=>v.cells.size==sz|none=>false)
   |none=>false
 | .o3 zero x,.clear,[y],[t]=>match aV P t with|some e=>gX P zero e&&decide (0<zero.length)&&okO F x y|none=>false
 | .max x y,.max,[x',y'],_=>okO F x x'&&okO F y y'
 | .min x y,.min,[x',y'],_=>okO F x x'&&okO F y y'
 |_,_,_,_=>false
theorem n6{P:Program}{F:Nat→FuncId}{x:O}{b:Builtin}{as:List Operand}{ats:List TypeId}(h:okB P F (.len x) b as ats=true):
  ∃y ty,b= .len∧as=[y]∧ats=[ty]∧okO F x y=true∧∃e,aV P ty=some e:=by
 cases b<;>first|(simp[okB] at h;done)|skip
 rcases as with _|⟨y,_|⟨z,as⟩⟩<;>first|(simp[okB] at h;done)|skip
 rcases ats with _|⟨ty,_|⟨z,ats⟩⟩<;>first|(simp[okB] at h;done)|skip
 simp only[okB,ae,Option.isSome_iff_exists] at h;exact⟨y,ty,rfl,rfl,rfl,h.1,h.2⟩
theorem mm{P:Program}{F:Nat→FuncId}{x:O}{b:Builtin}{as:List Operand}{ats:List TypeId}(h:okB P F (.dW x) b as ats=true):
  ∃y ty,b= .len∧as=[y]∧ats=[ty]∧okO F x y=true∧dZ P ty=true:=by
 cases b<;>first|(simp[okB] at h;done)|skip
 rcases as with _|⟨y,_|⟨z,as⟩⟩<;>first|(simp[okB] at h;done)|skip
 rcases ats with _|⟨ty,_|⟨z,ats⟩⟩<;>first|(simp[okB] at h;done)|skip
 simp only[okB,ae] at h;exact⟨y,ty,rfl,rfl,rfl,h.1,h.2⟩
theorem kH{P:Program}{F:Nat→FuncId}{sz bytes:Nat}{x y:O}{b:Builtin}{as:List Operand}{ats:List TypeId}(h:okB P F (.app sz bytes x y) b as ats=true):
  ∃x' y' ty u e d,b= .append∧as=[x',y']∧ats=[ty,u]∧okO F x x'=true∧okO F y y'=true∧aV P ty=some e∧bw P e=some sz∧0<sz∧dB P e=some bytes∧
   P.underlying u=some d∧(∀k,d≠.int k)∧∃zv,dU P e=some zv∧zv.cells.size=sz:=by
 cases b<;>first|(simp[okB] at h;done)|skip
 rcases as with _|⟨x',_|⟨y',_|⟨z,as⟩⟩⟩<;>first|(simp[okB] at h;done)|skip
 rcases ats with _|⟨ty,_|⟨u,_|⟨z,ats⟩⟩⟩<;>first|(simp[okB] at h;done)|skip
 simp only[okB] at h;split at h
 ·rename_i e he;simp only[ae,beq_iff_eq,decide_eq_true_eq] at h;obtain⟨⟨⟨⟨⟨⟨h1,h2⟩,h3⟩,h4⟩,h5⟩,h6⟩,h7⟩:=h;split at h7
  ·rename_i zv hzv;split at h4
   ·cases h4
   ·rename_i d hd1 hd2;exact⟨x',y',ty,u,e,d,rfl,rfl,rfl,h5,h6,he,h1,h2,h3,hd2,fun k hk=>hd1 k hk,zv,hzv,by simpa using h7⟩
   ·cases h4
  ·cases h7
 ·cases h
theorem mn{P:Program}{F:Nat→FuncId}{sz bytes:Nat}{x y:O}{b:Builtin}{as:List Operand}{ats:List TypeId}:okB P F (.jI sz bytes x y) b as ats=okB P F (.app sz bytes x y) b as ats:=by
 cases b<;>first|(simp[okB];done)|skip
 rcases as with _|⟨x',_|⟨y',_|⟨z,as⟩⟩⟩<;>first|(simp[okB];done)|skip
 rcases ats with _|⟨ty,_|⟨u,_|⟨z,ats⟩⟩⟩<;>simp only[okB]
theorem n7{P:Program}{F:Nat→FuncId}{zero:List T}{x:O}{b:Builtin}{as:List Operand}{ats:List TypeId}(h:okB P F (.o3 zero x) b as ats=true):
  ∃y ty e,b= .clear∧as=[y]∧ats=[ty]∧okO F x y=true∧aV P ty=some e∧gX P zero e=true∧0<zero.length:=by
 cases b<;>first|(simp[okB] at h;done)|skip
 rcases as with _|⟨y,_|⟨z,as⟩⟩<;>first|(simp[okB] at h;done)|skip
 rcases ats with _|⟨ty,_|⟨z,ats⟩⟩<;>first|(simp[okB] at h;done)|skip
 simp only[okB] at h;split at h
 ·rename_i e he;simp only[ae,decide_eq_true_eq] at h;exact⟨y,ty,e,rfl,rfl,rfl,h.2,he,h.1.1,h.1.2⟩
 ·cases h
theorem n5{P:Program}{F:Nat→FuncId}{x y:O}{b:Builtin}{as:List Operand}{ats:List TypeId}(h:okB P F (.max x y) b as ats=true):
  ∃x' y',b= .max∧as=[x',y']∧okO F x x'=true∧okO F y y'=true:=by
 cases b<;>first|(simp[okB] at h;done)|skip
 rcases as with _|⟨x',_|⟨y',_|⟨z,as⟩⟩⟩<;>first|(simp[okB] at h;done)|skip
 simp only[okB,ae] at h;exact⟨x',y',rfl,rfl,h.1,h.2⟩
theorem n4{P:Program}{F:Nat→FuncId}{x y:O}{b:Builtin}{as:List Operand}{ats:List TypeId}(h:okB P F (.min x y) b as ats=true):
  ∃x' y',b= .min∧as=[x',y']∧okO F x x'=true∧okO F y y'=true:=by
 cases b<;>first|(simp[okB] at h;done)|skip
 rcases as with _|⟨x',_|⟨y',_|⟨z,as⟩⟩⟩<;>first|(simp[okB] at h;done)|skip
 simp only[okB,ae] at h;exact⟨x',y',rfl,rfl,h.1,h.2⟩
def iK(P:Program)(F:Nat→FuncId)(f:Nat):Bool:=match P.funcs[F f]? with|some fn=>(fn.name != "runtime.NumGoroutine")&&fn.body.isSome|none=>false
def eA(P:Program)(F:Nat→FuncId)(m:MO)(c:Call):Bool:=
 match c.callee with
 | .builtin b=>okB P F m b c.args.toList c.argTypes.toList
 | .value f=>
   match m with
   | .call g as _ _=>okO F (.fn g) f&&fU F as c.args.toList
   | .fN x as=>okO F x f&&fU F as c.args.toList
   |_=>false
 |_=>false
variable {P:Program} {F:Nat→FuncId} {Pr:Nat→Prop} {w0:World} {lb:Lb} {N:Nat} {E:Nat→Option Loc} {n:Nat→Prop} {t:List (Nat×V)} {o:List (Nat×Ob)} {a:Act} {w:World}
def qf(P:Program)(oper:Oper)(a:Act)(w:World)(val:Value)(w':World):Prop:=
 (execOp a.eval oper).run P w= .ok (.value val) w'∨((execOp a.eval oper).run P w= .ok .skip w'∧val=undef)
def dz(P:Program)(F:Nat→FuncId)(Pr:Nat→Prop)(w0:World)(lb:Lb)(N:Nat)(n':Nat→Prop)(t:List (Nat×V))(o:List (Nat×Ob))(a:Act)(w:World)(oper:Oper)(v:V)(aK:List (Nat×Ob)):Prop:=
 ∃val w' E',qf P oper a w val w'∧Rel F Pr w0 lb N E' n' t (aK++o) a w'∧bm (cx F Pr E' (aK++o) w') v val
theorem az(R:Rel F Pr w0 lb N E n t o a w){n':Nat→Prop}(hn:∀k,n k→n' k){oper:Oper}{v:V}{val:Value}(hr:(execOp a.eval oper).run P w= .ok (.value val) w)(hv:bm (cx F Pr E o w) v val):
  dz P F Pr w0 lb N n' t o a w oper v []:=⟨val,w,E,.inl hr,R.same rfl rfl rfl rfl hn,hv⟩
theorem cP{X:Cx}{zero:List T}{ty:TypeId}(h:gX P zero ty=true):∃v,dU P ty=some v∧aP X zero v.cells.toList∧bw P ty=some zero.length∧∀(i:Nat) (t:T),zero[i]? =some t→aH t:=by
 unfold gX at h;split at h
 ·rename_i v hv;simp at h;exact⟨v,hv,i_ h.1,h.2,fy h.1⟩
 ·cases h
theorem n0{r:List T}:∀(i:Nat) (r':List T),[r][i]? =some r'→r'.length=r.length:=by
 intro i r' h;cases i with
 |zero=>simp at h;subst h;rfl
 |succ i=>simp at h
theorem kP(R:Rel F Pr w0 lb N E n t o a w){nn:Nat}{n':Nat→Prop}(hn:Fr n nn n'){oper:Oper}{d:Nat}{cs:List T}{cells:Array Value}{e:TypeId}(hc:aP (cx F Pr E o w) cs cells.toList)
  (hr:(execOp a.eval oper).run P w= .ok (.value (.pointer (some (aY w.heap.size)))) {w with heap:=w.heap.push (.cells cells e)}):
  dz P F Pr w0 lb N n' t o a w oper (.c (.ptr d nn 0 0)) [(d,{ar:=nn,sz:=cs.length,w:=true,bx:=true,rows:=[cs]})]:=by
 have hsz:cells.size=cs.length:=by have:=hc.1;simpa using this.symm
 obtain⟨R2,K⟩:=R.gA d nn n' {ar:=nn,sz:=cs.length,w:=true,bx:=true,rows:=[cs]} rfl hn cells.toList cells e (0,0) 1 (w':={w with heap:=w.heap.push (.cells cells e)}) rfl rfl rfl rfl
  (by simp) n0 (by simpa using hc) (by simp[hsz]) (by simp) (by intro q v h;simpa using h) (by simp)
 refine⟨_,_,_,.inl hr,R2,.c _ _ ?_⟩;have:=bc.ptr (X:=cx F Pr (E1 E nn (.bQ w.heap.size 1 cs.length)) ([(d,{ar:=nn,sz:=cs.length,w:=true,bx:=true,rows:=[cs]})]++o) {w with heap:=w.heap.push (.cells cells e)}) d nn 0 0 w.heap.size 1 cs.length (by simp[cx,E1])
 simpa [Addr.add] using this
theorem ph(R:Rel F Pr w0 lb N E n t o a w){nn:Nat}{n':Nat→Prop}(hn:Fr n nn n'){cf:au}{d:Nat}{x:O}{oper:Oper}(hok:aM P F (.mv x) oper.op=true){v:V}{aK:List (Nat×Ob)}
  (h:act cf nn d t o (.mv x)=some (v,aK)):dz P F Pr w0 lb N n' t o a w oper v aK:=by
 simp only[act,aa,ah] at h;obtain⟨u,hu,rfl,rfl⟩:=h;cases hop:oper.op with
 |move y=>rw[hop] at hok;exact az R hn.b8 (by simp[execOp,hop]) (bz R hok hu)
 |assign y=>rw[hop] at hok;exact az R hn.b8 (by simp[execOp,hop]) (bz R hok hu)
 |_=>rw[hop] at hok;simp[aM] at hok
theorem pg(R:Rel F Pr w0 lb N E n t o a w){nn:Nat}{n':Nat→Prop}(hn:Fr n nn n'){cf:au}{d:Nat}{oper:Oper}(hok:aM P F .np oper.op=true){v:V}{aK:List (Nat×Ob)}
  (h:act cf nn d t o .np=some (v,aK)):dz P F Pr w0 lb N n' t o a w oper v aK:=by
 simp only[act,af,ah] at h;obtain⟨rfl,rfl⟩:=h;unfold aM at hok;split at hok<;>first|(cases hok;done)|skip
 all_goals first|(exact az R hn.b8 (val:= .pointer none) (by simp_all[execOp,Act.eval]) (.undef _ (by intro b h;cases h)))|simp_all
theorem oB(R:Rel F Pr w0 lb N E n t o a w){nn:Nat}{n':Nat→Prop}(hn:Fr n nn n'){cf:au}{d sz:Nat}{oper:Oper}(hok:aM P F (.nil sz) oper.op=true){v:V}{aK:List (Nat×Ob)}
  (h:act cf nn d t o (.nil sz)=some (v,aK)):dz P F Pr w0 lb N n' t o a w oper v aK:=by
 simp only[act,af,ah] at h;obtain⟨rfl,rfl⟩:=h;have hr:(execOp a.eval oper).run P w= .ok (.value (.slice none 0 0)) w:=by
  unfold aM at hok;split at hok<;>first|(cases hok;done)|simp_all[execOp,Act.eval]
 obtain⟨R2,K⟩:=R.mr d nn n' {ar:=nn,sz:=sz,w:=true,bx:=false,rows:=[]} rfl hn rfl rfl;exact⟨_,_,_,.inl hr,R2,.c _ _ (.cI d nn (by simp[cx,E1]))⟩
theorem ni(R:Rel F Pr w0 lb N E n t o a w){nn:Nat}{n':Nat→Prop}(hn:Fr n nn n'){cf:au}{d:Nat}{c x y:O}{oper:Oper}(hok:aM P F (.pick c x y) oper.op=true){v:V}{aK:List (Nat×Ob)}
  (h:act cf nn d t o (.pick c x y)=some (v,aK)):dz P F Pr w0 lb N n' t o a w oper v aK:=by
 simp only[act] at h;split at h
 ·rename_i b hb;simp only[aa,ah] at h;obtain⟨u,hu,rfl,rfl⟩:=h;cases hop:oper.op with
  |pick c' x' y'=>
   rw[hop] at hok;simp only[aM,ae] at hok;refine az R hn.b8 (val:=if b then a.eval x' else a.eval y') ?_ ?_
   ·simp[execOp,hop,cM R hok.1.1 hb,asBool]
   ·cases b
    ·exact bz R hok.2 hu
    ·exact bz R hok.1.2 hu
  |_=>rw[hop] at hok;simp[aM] at hok
 ·cases h
theorem lR(R:Rel F Pr w0 lb N E n t o a w){nn:Nat}{n':Nat→Prop}(hn:Fr n nn n'){cf:au}{d:Nat}{zero:List T}{oper:Oper}(hok:aM P F (.alloc zero) oper.op=true){v:V}{aK:List (Nat×Ob)}
  (h:act cf nn d t o (.alloc zero)=some (v,aK)):dz P F Pr w0 lb N n' t o a w oper v aK:=by
 simp only[act,af,ah] at h;obtain⟨rfl,rfl⟩:=h;cases hop:oper.op with
 |alloc e=>
  rw[hop] at hok;obtain⟨v,hv,hrep,_⟩:=cP (P:=P) (X:=cx F Pr E o w) hok;exact kP R hn hrep (e:=e) (by simp[execOp,hop,Instr.alloc,bS hv,newVar,newRow,aY])
 |_=>rw[hop] at hok;simp[aM] at hok
theorem oN(R:Rel F Pr w0 lb N E n t o a w){nn:Nat}{n':Nat→Prop}(hn:Fr n nn n'){cf:au}{d:Nat}{x:O}{oper:Oper}(hok:aM P F (.box x) oper.op=true){v:V}{aK:List (Nat×Ob)}
  (h:act cf nn d t o (.box x)=some (v,aK)):dz P F Pr w0 lb N n' t o a w oper v aK:=by
 simp only[act,aa,ah] at h;obtain⟨cs,hcs,rfl,rfl⟩:=h;cases hop:oper.op with
 |box e y=>
  rw[hop] at hok;exact kP R hn (cN R hok hcs) (e:=e) (by simp[execOp,hop,Instr.box,newVar,newRow,aY])
 |_=>rw[hop] at hok;simp[aM] at hok
theorem nq(R:Rel F Pr w0 lb N E n t o a w){nn:Nat}{n':Nat→Prop}(hn:Fr n nn n'){cf:au}{d k:Nat}{agg:Bool}{x:O}{oper:Oper}(hok:aM P F (.load agg k x) oper.op=true){v:V}{aK:List (Nat×Ob)}
  (h:act cf nn d t o (.load agg k x)=some (v,aK)):dz P F Pr w0 lb N n' t o a w oper v aK:=by
 cases hop:oper.op with
 |load ty y=>
  rw[hop] at hok;simp only[aM,ae,beq_iff_eq] at hok;simp only[act] at h;split at h
  ·cases h
  ·rename_i p hp;split at h
   ·cases h
   ·rename_i r j hpl;obtain⟨ad,had,hcell⟩:=hX R (aG R hok.1.1 hp) hpl;split at h
    ·rename_i hagg;split at h
     ·rename_i hjk;cases h;obtain⟨cs,hlen,hrep,hc⟩:=hR (X:=cx F Pr E o w) hcell hjk;refine az R hn.b8 (val:= .agg cs.toArray) ?_ (bm.po hrep);have hl:=iG (P:=P) (w:=w) (ty:=ty) (by rw[hok.1.2,hagg]) (by rw[hok.2,hlen]) hc;simp only[execOp,hop,had,Sem.run_bind,hl];rfl
     ·cases h
    ·rename_i hagg;simp only[aa,ah] at h;obtain⟨c,hc,rfl,rfl⟩:=h;obtain⟨u,hu,hrep⟩:=hcell 0 c (by simpa using hc);rw[add_zero] at hu;refine az R hn.b8 (val:=u) ?_ (.c _ _ hrep);have hl:=iF (P:=P) (w:=w) (ty:=ty) (by rw[hok.1.2];cases agg<;>simp_all) hu;simp only[execOp,hop,had,Sem.run_bind,hl];rfl
 |_=>rw[hop] at hok;simp[aM] at hok
theorem oO(R:Rel F Pr w0 lb N E n t o a w){nn:Nat}{n':Nat→Prop}(hn:Fr n nn n'){cf:au}{d:Nat}{op:BinOp}{x y:O}{oper:Oper}(hok:aM P F (.bin op x y) oper.op=true){v:V}{aK:List (Nat×Ob)}
  (h:act cf nn d t o (.bin op x y)=some (v,aK)):dz P F Pr w0 lb N n' t o a w oper v aK:=by
 cases hop:oper.op with
 |binOp op' ty x' y' ty'=>
  rw[hop] at hok;simp only[aM,ae,beq_iff_eq] at hok;obtain⟨⟨rfl,hx⟩,hy⟩:=hok;simp only[act] at h;split at h
  ·rename_i p q hp hq;simp only[aa,ah] at h;obtain⟨r,hr,rfl,rfl⟩:=h;obtain⟨val,hrun,hrep⟩:=nW (P:=P) (w:=w) hr (aG R hx hp) (aG R hy hq) (xt:=ty) x' y';refine az R hn.b8 (val:=val) ?_ (.c _ _ hrep);simp only[execOp,hop,Sem.run_bind] at hrun ⊢;rw[hrun];rfl
  ·cases h
 |_=>rw[hop] at hok;simp[aM] at hok
theorem run_equalIn_bool{ty:TypeId}(hb:P.underlying ty=some .bool)(d:Nat)(x y:Bool):(Op.equalIn (d+1) ty (.bool x) (.bool y)).run P w= .ok (x==y) w:=by
 simp[Op.equalIn,run_underlying hb]
theorem run_equal_bool{ty:TypeId}(hb:P.underlying ty=some .bool)(x y:Bool):(Op.equal ty (.bool x) (.bool y)).run P w= .ok (x==y) w:=run_equalIn_bool hb 9999 x y
theorem oP(R:Rel F Pr w0 lb N E n t o a w){nn:Nat}{n':Nat→Prop}(hn:Fr n nn n'){cf:au}{d:Nat}{neg:Bool}{x y:O}{oper:Oper}(hok:aM P F (.beq neg x y) oper.op=true){v:V}{aK:List (Nat×Ob)}
  (h:act cf nn d t o (.beq neg x y)=some (v,aK)):dz P F Pr w0 lb N n' t o a w oper v aK:=by
 cases hop:oper.op with
 |binOp op' ty x' y' ty'=>
  rw[hop] at hok;simp only[aM,ae,beq_iff_eq] at hok;obtain⟨⟨⟨rfl,hb⟩,hx⟩,hy⟩:=hok;simp only[act] at h;split at h
  ·rename_i p q hp hq;simp only[af,ah] at h;obtain⟨rfl,rfl⟩:=h;refine az R hn.b8 (val:= .bool (if neg then !(p==q) else p==q)) ?_ (.c _ _ (.bool _));have he:=run_equal_bool (P:=P) (w:=w) (gI hb) p q;have hg:∀op,(eqGuard op ty x' y' (.bool p) (.bool q)).run P w= .ok () w:=by intro op;unfold eqGuard;split<;>simp
   cases neg<;>simp only[execOp,hop,cM R hx hp,cM R hy hq,Sem.run_bind,hg,Result.andThen_ok,binOp,he,aD,if_true,if_false]<;>rfl
  ·cases h
 |_=>rw[hop] at hok;simp[aM] at hok
theorem oA(R:Rel F Pr w0 lb N E n t o a w){nn:Nat}{n':Nat→Prop}(hn:Fr n nn n'){cf:au}{d:Nat}{x:O}{oper:Oper}(hok:aM P F (.not x) oper.op=true){v:V}{aK:List (Nat×Ob)}
  (h:act cf nn d t o (.not x)=some (v,aK)):dz P F Pr w0 lb N n' t o a w oper v aK:=by
 simp only[act,aa,ah] at h;obtain⟨b,hb,rfl,rfl⟩:=h;cases hop:oper.op with
 |unOp u ty y=>
  rw[hop] at hok;cases u<;>simp only[aM,aD] at hok
  exact az R hn.b8 (val:= .bool !b) (by simp[execOp,hop,cM R hok hb,Op.unary]) (.c _ _ (.bool _))
 |_=>rw[hop] at hok;simp[aM] at hok
theorem oC(R:Rel F Pr w0 lb N E n t o a w){nn:Nat}{n':Nat→Prop}(hn:Fr n nn n'){cf:au}{d:Nat}{x:O}{oper:Oper}(hok:aM P F (.neg x) oper.op=true){v:V}{aK:List (Nat×Ob)}
  (h:act cf nn d t o (.neg x)=some (v,aK)):dz P F Pr w0 lb N n' t o a w oper v aK:=by
 simp only[act,aa,ah] at h;obtain⟨⟨k,i⟩,hb,rfl,rfl⟩:=h;cases hop:oper.op with
 |unOp u ty y=>
  rw[hop] at hok;cases u<;>simp only[aM,aD] at hok
  exact az R hn.b8 (val:= .int k (k.wrap (0-i))) (by simp[execOp,hop,ia R hok hb,Op.unary,Op.intArith]) (.c _ _ (.int _ _))
 |_=>rw[hop] at hok;simp[aM] at hok
theorem oJ(R:Rel F Pr w0 lb N E n t o a w){nn:Nat}{n':Nat→Prop}(hn:Fr n nn n'){cf:au}{d:Nat}{k:IntKind}{x:O}{oper:Oper}(hok:aM P F (.mI k x) oper.op=true){v:V}{aK:List (Nat×Ob)}
  (h:act cf nn d t o (.mI k x)=some (v,aK)):dz P F Pr w0 lb N n' t o a w oper v aK:=by
 simp only[act,aa,ah] at h;obtain⟨⟨k',i⟩,hb,rfl,rfl⟩:=h;cases hop:oper.op with
 |convert s e y=>
  rw[hop] at hok;simp only[aM,ae,Option.isSome_iff_exists] at hok;obtain⟨⟨hd,ds,hs⟩,hx⟩:=hok;exact az R hn.b8 (val:= .int k (k.wrap i)) (by simp[execOp,hop,ia R hx hb,convert,run_underlying (f_ hd),run_underlying hs,Conv.intToInt]) (.c _ _ (.int _ _))
 |_=>rw[hop] at hok;simp[aM] at hok
theorem oL(R:Rel F Pr w0 lb N E n t o a w){nn:Nat}{n':Nat→Prop}(hn:Fr n nn n'){cf:au}{d i:Nat}{x:O}{oper:Oper}(hok:aM P F (.ext i x) oper.op=true){v:V}{aK:List (Nat×Ob)}
  (h:act cf nn d t o (.ext i x)=some (v,aK)):dz P F Pr w0 lb N n' t o a w oper v aK:=by
 cases hop:oper.op with
 |extract y j=>
  rw[hop] at hok;simp only[aM,ae,beq_iff_eq] at hok;obtain⟨rfl,hx⟩:=hok;simp only[act] at h;split at h
  ·rename_i vs hvs;simp only[aa,ah] at h;obtain⟨u,hu,rfl,rfl⟩:=h;have hr:=bz R hx hvs;generalize hg:a.eval y=val at hr;cases hr with
   |fj _ xs hnn hh=>
    have hlt:i<xs.size:=by rw[←hnn];exact(List.getElem?_eq_some_iff.1 hu).1
    exact az R hn.b8 (val:=xs[i]) (by simp[execOp,hop,hg,Instr.extract,hlt]) (hh i _ _ hu (by simp[hlt]))
  ·cases h
 |_=>rw[hop] at hok;simp[aM] at hok
theorem nk(R:Rel F Pr w0 lb N E n t o a w){nn:Nat}{n':Nat→Prop}(hn:Fr n nn n'){cf:au}{d:Nat}{x:O}{oper:Oper}(hok:aM P F (.ln x) oper.op=true){v:V}{aK:List (Nat×Ob)}
  (h:act cf nn d t o (.ln x)=some (v,aK)):dz P F Pr w0 lb N n' t o a w oper v aK:=by
 cases hop:oper.op with
 |nilCheck y=>
  rw[hop] at hok;simp only[act] at h;split at h<;>first|(cases h;done)|skip
  all_goals
   rename_i hl;cases h;have hr:=aG R hok hl;generalize hg:a.eval y=val at hr;refine az R hn.b8 (val:=val) ?_ (.c _ _ hr);cases hr<;>simp[execOp,hop,hg]
 |_=>rw[hop] at hok;simp[aM] at hok
end Mx
namespace Mx
open Go
variable {P:Program} {F:Nat→FuncId} {Pr:Nat→Prop} {w0:World} {lb:Lb} {N:Nat} {E:Nat→Option Loc} {n:Nat→Prop} {t:List (Nat×V)} {o:List (Nat×Ob)} {a:Act} {w:World}
theorem lP(R:Rel F Pr w0 lb N E n t o a w){nn:Nat}{n':Nat→Prop}(hn:Fr n nn n'){cf:au}{d off:Nat}{x:O}{oper:Oper}(hok:aM P F (.eD off x) oper.op=true){v:V}{aK:List (Nat×Ob)}
  (h:act cf nn d t o (.eD off x)=some (v,aK)):dz P F Pr w0 lb N n' t o a w oper v aK:=by
 cases hop:oper.op with
 |fieldAddr s y f=>
  rw[hop] at hok;simp only[aM] at hok;split at hok
  ·rename_i fs hfs;split at hok
   ·rename_i fd hfd;split at hok
    ·rename_i k hk;simp only[ae,beq_iff_eq,bne_iff_ne,ne_eq] at hok;obtain⟨⟨rfl,hk0⟩,hx⟩:=hok;have hrun:∀ad,(Instr.fieldAt s (.pointer (some ad)) f).run P w= .ok (.pointer (some (ad.add fd.offset))) w:=by
      intro ad;simp[Instr.fieldAt,run_underlying (dg hfs),hfd,Instr.sureAddr,fieldPlace,aN hk,hk0]
     simp only[act] at h;split at h<;>first|(cases h;done)|skip
     ·rename_i id ar i j hl;cases h;have hr:=aG R hx hl;generalize hg:a.eval y=val at hr;cases hr with
      |ptr _ _ _ _ b cap sz hE=>
       refine az R hn.b8 (val:= .pointer (some (((aY b).add (i*sz+j)).add fd.offset))) ?_ (.c _ _ ?_)
       ·simp only[execOp,hop,hg,Sem.run_bind,hrun];rfl
       ·rw[add_add,Nat.add_assoc];exact .ptr id ar i (j+fd.offset) b cap sz hE
     ·rename_i cells j hl;cases h;have hr:=aG R hx hl;generalize hg:a.eval y=val at hr;cases hr with
      |vp _ _ ad vs hcell hrep hcl=>
       refine az R hn.b8 (val:= .pointer (some (ad.add fd.offset))) ?_ (.c _ _ ?_)
       ·simp only[execOp,hop,hg,Sem.run_bind,hrun];rfl
       ·refine .vp cells (j+fd.offset) _ (fun q=>vs (fd.offset+q)) ?_ ?_ (fun q t ht=>hcl (fd.offset+q) t (by rw[←Nat.add_assoc];exact ht))
        ·intro q t ht;rw[Nat.add_assoc] at ht;obtain⟨h1,h2⟩:=hcell _ t ht;exact⟨by rw[bo];exact h1,by rw[add_add];exact h2⟩
        ·intro q t ht;rw[Nat.add_assoc] at ht;exact hrep _ t ht
    ·simp at hok
   ·cases hok
  ·cases hok
 |_=>rw[hop] at hok;simp[aM] at hok
theorem fC{ty e:TypeId}{sz:Nat}(hs:aV P ty=some e)(hsz:bw P e=some sz){ad:Addr}{len c i:Nat}{k:IntKind}(hi:i<len):
  (Instr.indexAt ty (.slice (some ad) len c) (.int k (i:Int))).run P w= .ok (.pointer (some (ad.add (i*sz)))) w:=by
 have h1:(0:Int)≤i∧(i:Int)<len:=by omega
 simp[Instr.indexAt,asIntOf,run_underlying (bh hs),aN hsz,hi]
theorem lO(R:Rel F Pr w0 lb N E n t o a w){nn:Nat}{n':Nat→Prop}(hn:Fr n nn n'){cf:au}{d sz:Nat}{x ix:O}{oper:Oper}(hok:aM P F (.da sz x ix) oper.op=true){v:V}{aK:List (Nat×Ob)}
  (h:act cf nn d t o (.da sz x ix)=some (v,aK)):dz P F Pr w0 lb N n' t o a w oper v aK:=by
 cases hop:oper.op with
 |indexAddr ty y iy=>
  rw[hop] at hok;simp only[aM] at hok;split at hok
  ·rename_i e he;simp only[ae,beq_iff_eq,decide_eq_true_eq] at hok;obtain⟨⟨⟨hsz,hpos⟩,hx⟩,hix⟩:=hok;simp only[act] at h;split at h
   ·rename_i id ar off len i hl hi;split at h
    ·rename_i ob hg;split at h
     ·rename_i hc;cases h;obtain⟨hver,hsz2,hbx,hlt⟩:=hc;obtain⟨k,hk⟩:=cd R hix hi;have hr:=aG R hx hl;generalize hv:a.eval y=val at hr;cases hr with
      |row _ _ _ _ cap sz' b hE hfit ho=>
       refine az R hn.b8 (val:= .pointer (some (((aY b).add (off*sz')).add (i*sz)))) ?_ (.c _ _ ?_)
       ·simp only[execOp,hop,hv,hk,Sem.run_bind,fC he hsz hlt];rfl
       ·obtain⟨e1,_⟩:=bO R hg hver hE;subst e1;have:=bc.ptr (X:=cx F Pr E o w) id ar (off+i) 0 b cap ob.sz hE;rw[add_add,←hsz2,show off*ob.sz+i*ob.sz=(off+i)*ob.sz+0 from by rw[Nat.add_mul];rfl];exact this
      |cI=>omega
     ·cases h
    ·cases h
   ·rename_i own sz' rows i hl hi;split at h
    ·rename_i hs;subst hs;simp only[aa,ah] at h;obtain⟨r,hr0,rfl,rfl⟩:=h;obtain⟨k,hk⟩:=cd R hix hi;have hr:=aG R hx hl;generalize hv:a.eval y=val at hr;cases hr with
     |sl _ _ _ A c vs hc hwid hcell hrep hcl=>
      have hw:=hwid i r hr0;have hlt:i<rows.length:=(List.getElem?_eq_some_iff.1 hr0).1;have h0:0<r.length:=by omega
      obtain⟨ad,rfl,_,_⟩:=hcell i 0 r r[0] hr0 (by simp[h0]);refine az R hn.b8 (val:= .pointer (some (ad.add (i*sz')))) ?_ (.c _ _ ?_)
      ·simp only[execOp,hop,hv,hk,Sem.run_bind,fC he hsz hlt];rfl
      ·refine .vp r 0 _ (fun q=>vs i q) ?_ ?_ (fun q t ht=>hcl i q r t hr0 (by simpa using ht))
       ·intro q t ht;rw[Nat.zero_add] at ht;obtain⟨ad',had,h1,h2⟩:=hcell i q r t hr0 ht;cases had;exact⟨by rw[bo];exact h1,by rw[add_add];exact h2⟩
       ·intro q t ht;rw[Nat.zero_add] at ht;exact hrep i q r t hr0 ht
    ·cases h
   ·cases h
  ·cases hok
 |_=>rw[hop] at hok;simp[aM] at hok
theorem lN(R:Rel F Pr w0 lb N E n t o a w){nn:Nat}{n':Nat→Prop}(hn:Fr n nn n'){cf:au}{d k:Nat}{x y:O}{oper:Oper}(hok:aM P F (.store k x y) oper.op=true){v:V}{aK:List (Nat×Ob)}
  (hcl:∀{ts us:List T} {vs:List Value},aS (cl o) ts=some us→aP (cx F Pr E o w) ts vs→aP (cx F Pr E o w) us vs∧∀(i:Nat) (t:T),us[i]? =some t→aH t)
  (h:act cf nn d t o (.store k x y)=some (v,aK)):dz P F Pr w0 lb N n' t o a w oper v aK:=by
 cases hop:oper.op with
 |store ty x' y'=>
  rw[hop] at hok;simp only[aM,ae,beq_iff_eq] at hok;obtain⟨⟨hx,hy⟩,hsz⟩:=hok;simp only[act] at h;split at h
  ·rename_i id ar i j cs hl hc;split at h
   ·rename_i ob hg;split at h
    ·rename_i hcond;obtain⟨hver,hw,hk⟩:=hcond;split at h
     ·rename_i r cs' hr hcs;split at h
      ·rename_i hfit;cases h;have hp:=aG R hx hl;generalize hv:a.eval x'=val at hp;cases hp with
       |ptr _ _ _ _ b cap sz hE=>
        obtain⟨e1,hob⟩:=bO R hg hver hE;have hrepc:=cN R hy hc;have hlen:cs'.length=cs.length∧aP (cx F Pr E o w) cs' (a.eval y').cells.toList∧(ob.bx=false→∀(i:Nat) (t:T),cs'[i]? =some t→aH t):=by
         split at hcs
         ·rename_i hb;cases hcs;exact⟨rfl,hrepc,fun q=>by rw[hb] at q;cases q⟩
         ·have:=hcl hcs hrepc;exact⟨by rw[this.1.1,hrepc.1],this.1,fun _=>this.2⟩
        subst e1;have hE2:E ob.ar=some (.bQ b cap ob.sz):=by rw[hver];exact hE
        obtain⟨_,hl3,hwid,_,cells,e,fr,m1,m2,m3,m4⟩:=bO R hg rfl hE2;have m1':w.heap[b]? =some (.cells cells e fr):=m1;have hrl:=hwid i r hr;have hil:i<ob.rows.length:=(List.getElem?_eq_some_iff.1 hr).1;have hfit2:i*ob.sz+j+0+(a.eval y').cells.toList.length≤cells.size:=by
         rw[m2,←hlen.2.1.1];have:(i+1)*ob.sz≤cap*ob.sz:=aE _ (by omega);rw[Nat.add_mul,Nat.one_mul] at this;omega
        obtain⟨w',_,g1,_⟩:=bf (P:=P) (a.eval y').cells.toList 0 (i*ob.sz+j) cells w m1' hfit2 m3 hlen.2.1.one;obtain⟨R2,K⟩:=R.write hg hw hE2 hr hfit hlen.2.1 hlen.2.2 g1;refine⟨undef,w',E,.inr ⟨?_,rfl⟩,R2.same rfl rfl rfl rfl hn.b8,.undef _ (by intro b h;cases h)⟩;have hcs2:(a.eval y').cells.size=k:=by have:=hrepc.1;simp at this;omega
        simp only[execOp,hop,hv,Instr.storeAt,Instr.sureAddr,storeVar,Sem.run_bind,Sem.run_pure,Result.andThen_ok,aN hsz,hcs2,ne_eq,not_true_eq_false,if_false,g1]
      ·cases h
     ·cases h
    ·cases h
   ·cases h
  ·cases h
 |_=>rw[hop] at hok;simp[aM] at hok
theorem kD(R:Rel F Pr w0 lb N E n t o a w){id ar off len:Nat}{ob:Ob}{v:Value}(hg:get o id=some ob)(hver:ob.ar=ar)(hfit:off+len≤ob.rows.length)(hw:ob.w=false)
  (hbx:ob.bx=false) (hr:bc (cx F Pr E o w) (.row id ar off len) v):bc (cx F Pr E o w) (.sl false ob.sz ((ob.rows.drop off).take len)) v:=by
 cases hr with
 |row _ _ _ _ cap sz b hE hl ho=>
  obtain⟨e1,h1,h2,hcl,cs,e,fr,m1,m2,m3,m4⟩:=bO R hg hver hE;subst e1;have hlen:((ob.rows.drop off).take len).length=len:=by simp;omega
  have m1':w.heap[b]? =some (.cells cs e fr):=m1;have key:∀(i j:Nat) (r:List T) (t:T),((ob.rows.drop off).take len)[i]? =some r→r[j]? =some t→∃v,cs[(off+i)*ob.sz+j]? =some v∧bc (cx F Pr E o w) t v:=by
   intro i j r t hr ht;rw[aC] at hr;split at hr
   ·rw[aL] at hr;exact m4 _ _ r t hr ht
   ·cases hr
  have hnu:¬(cx F Pr E o w).U b:=by
   rintro (⟨id',ob',cap',sz',g1,g2,g3⟩|hpr);rotate_left
   ·have h1:=R.pr.1 b hpr;rcases (R.place id ob b cap ob.sz hg (by rw[hver];exact hE)).2 with q|q
    ·omega
    ·exact h1.2 q
   have:=R.de id id' ob ob' b cap ob.sz cap' sz' hg g1 (by rw[hver];exact hE) g3;subst this;rw[hg] at g1;cases g1;rw[hw] at g2;cases g2
  have:bc (cx F Pr E o w) (.sl false ob.sz ((ob.rows.drop off).take len)) (.slice (some ((aY b).add (off*ob.sz))) ((ob.rows.drop off).take len).length (cap-off)):=by
   refine .sl false ob.sz _ _ _ (fun i j=>cs.getD ((off+i)*ob.sz+j) undef) ?_ ?_ ?_ ?_ ?_
   ·rw[hlen];omega
   ·intro i r hr;rw[aC] at hr;split at hr
    ·rw[aL] at hr;exact h2 _ r hr
    ·cases hr
   ·intro i j r t hr ht;obtain⟨v,hv,_⟩:=key i j r t hr ht;refine⟨_,rfl,by rw[bo];exact hnu, ?_⟩;rw[add_add,cw];show w.cell? _=_;simp only[World.cell?,m1',Option.isSome_none,aD,if_false,ax];rw[show off*ob.sz+(i*ob.sz+j)=(off+i)*ob.sz+j from by rw[Nat.add_mul];omega,hv];rfl
   ·intro i j r t hr ht;obtain⟨v,hv,hrep⟩:=key i j r t hr ht;simp only[ax,hv,bF];exact hrep
   ·intro i j r t hr ht;rw[aC] at hr;split at hr
    ·rw[aL] at hr;exact hcl hbx _ j r t hr ht
    ·cases hr
  rw[hlen] at this;exact this
 |cI _ _ hE=>
  have:=bc.sl (X:=cx F Pr E o w) false ob.sz [] none 0 (fun _ _=>undef) (by simp) (fun i r h=>by simp at h) (fun i j r t h=>by simp at h) (fun i j r t h=>by simp at h) (fun i j r t h=>by simp at h);simpa using this
theorem gQ(R:Rel F Pr w0 lb N E n t o a w){x y:T}{v:Value}(h:cl o x=some y)(hr:bc (cx F Pr E o w) x v):bc (cx F Pr E o w) y v:=by
 cases x with
 |ptr=>simp[cl] at h
 |vp=>simp[cl] at h
 |fn=>simp[cl] at h
 |int k m=>simp[cl,wr,eI] at h;subst h;exact hr
 |bool b=>simp[cl,wr,eI] at h;subst h;exact hr
 |str s=>simp[cl,wr,eI] at h;subst h;exact hr
 |cA sz=>
  simp[cl,wr,eI] at h;subst h;cases hr;exact .sl false _ [] none 0 (fun _ _=>undef) (by simp) (fun i r h=>by simp at h) (fun i j r t h=>by simp at h) (fun i j r t h=>by simp at h) (fun i j r t h=>by simp at h)
 |sl own sz rows=>simp[cl,wr,eI] at h;subst h;cases hr with|sl _ _ _ A c vs h1 h2 h3 h4 h5=>exact .sl false _ _ A c vs h1 h2 h3 h4 h5
 |row id ar off len=>
  simp only[cl] at h;split at h
  ·rename_i hwr;simp only[eI] at h;split at h
   ·rename_i ob hg;split at h
    ·rename_i hc;cases h;obtain⟨hver,hbx,hfit⟩:=hc;have hw:ob.w=false:=by
      simp only[wr,hg] at hwr;cases hq:ob.w
      ·rfl
      ·simp[hq] at hwr
     exact kD R hg hver hfit hw hbx hr
    ·cases h
   ·cases h
  ·cases h
theorem en(R:Rel F Pr w0 lb N E n t o a w){x y:T}{v:Value}(h:cl o x=some y)(hr:bc (cx F Pr E o w) x v):aH y:=by
 cases x with
 |ptr=>simp[cl] at h
 |vp=>simp[cl] at h
 |fn=>simp[cl] at h
 |int k m=>simp[cl,wr,eI] at h;subst h;exact .int _ _
 |bool b=>simp[cl,wr,eI] at h;subst h;exact .bool _
 |str s=>simp[cl,wr,eI] at h;subst h;exact .str _
 |cA sz=>simp[cl,wr,eI] at h;subst h;exact .sl _ _ _ (fun i j r t h=>by simp at h)
 |sl own sz rows=>simp[cl,wr,eI] at h;subst h;cases hr with|sl _ _ _ A c vs h1 h2 h3 h4 h5=>exact .sl _ _ _ h5
 |row id ar off len=>
  have:=gQ R h hr;simp only[cl] at h;split at h
  ·simp only[eI] at h;split at h
   ·split at h
    ·cases h;cases this with|sl _ _ _ A c vs h1 h2 h3 h4 h5=>exact .sl _ _ _ h5
    ·cases h
   ·cases h
  ·cases h
theorem iV(R:Rel F Pr w0 lb N E n t o a w):∀{ts us:List T} {vs:List Value},aS (cl o) ts=some us→aP (cx F Pr E o w) ts vs→aP (cx F Pr E o w) us vs
 |[],us,vs,h,hr=>by simp[aS] at h;subst h;exact hr
 |x::ts,us,vs,h,hr=>by
  simp only[aS] at h;split at h
  ·rename_i y ys hy hys;cases h;obtain⟨v,vs',rfl,h1,h2⟩:=hr.gn;exact .cons (gQ R hy h1) (iV R hys h2)
  ·cases h
theorem eN(R:Rel F Pr w0 lb N E n t o a w):∀{ts us:List T} {vs:List Value},aS (cl o) ts=some us→aP (cx F Pr E o w) ts vs→∀(i:Nat) (t:T),us[i]? =some t→aH t
 |[],us,vs,h,hr,i,t,hi=>by simp[aS] at h;subst h;simp at hi
 |x::ts,us,vs,h,hr,i,t,hi=>by
  simp only[aS] at h;split at h
  ·rename_i y ys hy hys;cases h;obtain⟨v,vs',rfl,h1,h2⟩:=hr.gn;cases i with
   |zero=>simp at hi;subst hi;exact en R hy h1
   |succ i=>exact eN R hys h2 i t (by simpa using hi)
  ·cases h
theorem oI(R:Rel F Pr w0 lb N E n t o a w){nn:Nat}{n':Nat→Prop}(hn:Fr n nn n'){cf:au}{d:Nat}{x ix:O}{oper:Oper}(hok:aM P F (.idx x ix) oper.op=true){v:V}{aK:List (Nat×Ob)}
  (h:act cf nn d t o (.idx x ix)=some (v,aK)):dz P F Pr w0 lb N n' t o a w oper v aK:=by
 cases hop:oper.op with
 |index ty y iy=>
  rw[hop] at hok;simp only[aM,ae] at hok;obtain⟨⟨hs,hx⟩,hix⟩:=hok;simp only[act] at h;split at h
  ·rename_i s i hl hi;split at h
   ·rename_i hlt;cases h;obtain⟨k,hk⟩:=cd R hix hi;have hr:=(aG R hx hl).dC;refine az R hn.b8 (val:= .int .u8 (s[i]'hlt).toNat) ?_ (.c _ _ (.int _ _));have:(Instr.index ty (.string s) (.int k (i:Int))).run P w= .ok (.int .u8 (s[i]'hlt).toNat) w:=by
     have hg:s[(i:Int).toNat]? =some (s[i]'hlt):=by rw[cV];exact getElem?_pos s i hlt
     have h0:(0:Int)≤i:=by omega
     simp only[Instr.index,asIntOf,Sem.run_bind,Sem.run_pure,Result.andThen_ok,run_underlying (ei hs),if_pos h0,hg]
    simp only[execOp,hop,hr,hk,Sem.run_bind,this];rfl
   ·cases h
  ·cases h
 |_=>rw[hop] at hok;simp[aM] at hok
theorem lM{α:Type}{as:Array α}{x:α}(h:as.toList=[x]):as= #[x]:=by cases as;simp_all
theorem lL{α:Type}{as:Array α}{x y:α}(h:as.toList=[x,y]):as= #[x,y]:=by cases as;simp_all
theorem oH(R:Rel F Pr w0 lb N E n t o a w){nn:Nat}{n':Nat→Prop}(hn:Fr n nn n'){cf:au}{d:Nat}{x:O}{oper:Oper}{c:Call}(hop:oper.op= .call c)(hok:eA P F (.len x) c=true){v:V}{aK:List (Nat×Ob)}
  (h:act cf nn d t o (.len x)=some (v,aK)):dz P F Pr w0 lb N n' t o a w oper v aK:=by
 obtain⟨cal,as,ats⟩:=c;cases cal with
 |value=>simp[eA] at hok
 |invoke=>simp[eA] at hok
 |builtin b=>
 simp only[eA] at hok;obtain⟨y,ty,rfl,h1,h2,hx,e,he⟩:=n6 hok;have h1:=lM h1;have h2:=lM h2;subst h1 h2
 ·simp only[act] at h;split at h
  ·rename_i z hz;simp only[aa,ah] at h;obtain⟨m,hm,rfl,rfl⟩:=h;have hr:=aG R hx hz;refine az R hn.b8 (val:= .int .i64 m) ?_ (.c _ _ (.int _ _));have:(Builtin.len_ #[ty] oper.type #[a.eval y]).run P w= .ok (.int .i64 m) w:=by
    generalize hv:a.eval y=val at hr;cases z<;>simp only[lenOf,af,reduceCtorEq] at hm
    ·subst hm;cases hr;simp[Builtin.len_,run_underlying (bh he),goInt]
    ·subst hm;cases hr;simp[Builtin.len_,run_underlying (bh he),goInt]
    ·subst hm;cases hr<;>simp[Builtin.len_,run_underlying (bh he),goInt]
   simp[execOp,hop,resolve,invoke,builtin,this]
  ·cases h
theorem nd(R:Rel F Pr w0 lb N E n t o a w){nn:Nat}{n':Nat→Prop}(hn:Fr n nn n'){cf:au}{d:Nat}{x:O}{oper:Oper}{c:Call}(hop:oper.op= .call c)(hok:eA P F (.dW x) c=true){v:V}{aK:List (Nat×Ob)}
  (h:act cf nn d t o (.dW x)=some (v,aK)):dz P F Pr w0 lb N n' t o a w oper v aK:=by
 obtain⟨cal,as,ats⟩:=c;cases cal with
 |value=>simp[eA] at hok
 |invoke=>simp[eA] at hok
 |builtin b=>
 simp only[eA] at hok;obtain⟨y,ty,rfl,h1,h2,hx,he⟩:=mm hok;have h1:=lM h1;have h2:=lM h2;subst h1 h2
 ·simp only[act] at h;split at h
  ·rename_i s hz;cases h;have hr:=(aG R hx hz).dC;refine az R hn.b8 (val:= .int .i64 s.size) ?_ (.c _ _ (.int _ _));have:(Builtin.len_ #[ty] oper.type #[a.eval y]).run P w= .ok (.int .i64 s.size) w:=by
    simp[Builtin.len_,run_underlying (ei he),goInt,hr]
   simp[execOp,hop,resolve,invoke,builtin,this]
  ·cases h
theorem oK(R:Rel F Pr w0 lb N E n t o a w){nn:Nat}{n':Nat→Prop}(hn:Fr n nn n'){cf:au}{d off k:Nat}{agg:Bool}{x:O}{oper:Oper}(hok:aM P F (.og agg off k x) oper.op=true){v:V}{aK:List (Nat×Ob)}
  (h:act cf nn d t o (.og agg off k x)=some (v,aK)):dz P F Pr w0 lb N n' t o a w oper v aK:=by
 cases hop:oper.op with
 |field ty y f=>
  rw[hop] at hok;simp only[aM] at hok;split at hok
  ·rename_i fs hfs;split at hok
   ·rename_i fd hfd;simp only[ae,beq_iff_eq] at hok;obtain⟨⟨⟨rfl,hagg⟩,hk⟩,hx⟩:=hok;simp only[act] at h;split at h
    ·rename_i cs hcs;have hr:=bz R hx hcs;generalize hv:a.eval y=val at hr;cases hr with
     |a _ xs hlen hrep=>
      have hL:aP (cx F Pr E o w) cs xs.toList:=⟨by simpa using hlen,fun i t v h1 h2=>hrep i t v h1 (by simpa using h2)⟩;split at h
      ·rename_i hagg2;split at h
       ·rename_i hfit;cases h;refine az R hn.b8 (val:= .agg (xs.extract fd.offset (fd.offset+k))) ?_ ?_
        ·simp[execOp,hop,hv,Instr.field,run_underlying (dg hfs),hfd,asAgg,part,bT (hagg.trans (by rw[hagg2])),aN hk]
        ·have:=(hL.drop fd.offset).take k;have h2:=bm.po this;rw[show (List.take k (List.drop fd.offset xs.toList)).toArray=xs.extract fd.offset (fd.offset+k) from by
          apply Array.ext';simp[List.take_drop,Nat.add_comm]] at h2
         exact h2
       ·cases h
      ·rename_i hagg2;simp only[aa,ah] at h;obtain⟨c,hc,rfl,rfl⟩:=h;have hlt:fd.offset<xs.size:=by rw[←hlen];exact(List.getElem?_eq_some_iff.1 hc).1
       refine az R hn.b8 (val:=xs[fd.offset]) ?_ (.c _ _ (hrep _ _ _ hc (by simp[hlt])));have hagg3:cn P fd.type=some false:=by rw[hagg];cases agg<;>simp_all
       simp[execOp,hop,hv,Instr.field,run_underlying (dg hfs),hfd,asAgg,part,bT hagg3,hlt]
    ·cases h
   ·cases hok
  ·cases hok
 |_=>rw[hop] at hok;simp[aM] at hok
theorem gC(R:Rel F Pr w0 lb N E n t o a w):∀{xs:List O} {ys:List Operand} {ts:List T},fU F xs ys=true→aS (a8 t) xs=some ts→aP (cx F Pr E o w) ts (ys.map a.eval)
 |[],[],ts,_,h=>by simp[aS] at h;subst h;exact .nil _
 |x::xs,y::ys,ts,hok,h=>by
  simp only[fU,ae] at hok;simp only[aS] at h;split at h
  ·rename_i u us h1 h2;cases h;exact .cons (aG R hok.1 h1) (gC R hok.2 h2)
  ·cases h
 |[],_::_,_,hok,_=>by simp[fU] at hok
 |_::_,[],_,hok,_=>by simp[fU] at hok
theorem nm(R:Rel F Pr w0 lb N E n t o a w){nn:Nat}{n':Nat→Prop}(hn:Fr n nn n'){cf:au}{d f:Nat}{caps:List O}{oper:Oper}(hok:aM P F (.j8 f caps) oper.op=true){v:V}{aK:List (Nat×Ob)}
  (h:act cf nn d t o (.j8 f caps)=some (v,aK)):dz P F Pr w0 lb N n' t o a w oper v aK:=by
 cases hop:oper.op with
 |makeFunc g first captured=>
  rw[hop] at hok;cases g with
  |func g=>
   simp only[aM,ae,beq_iff_eq] at hok;obtain⟨⟨rfl,hfirst⟩,hcaps⟩:=hok;simp only[act,aa,ah] at h;obtain⟨cs,hcs,rfl,rfl⟩:=h;have hL:=gC R hcaps hcs;have hf0:first= #[]:=by simpa using hfirst
   subst hf0;refine az R hn.b8 (val:= .func (.func (F f)) #[] (captured.map a.eval)) (by simp[execOp,hop,Instr.makeFunc]) (.c _ _ ?_);have:=bc.fn (X:=cx F Pr E o w) f cs (captured.map a.eval) (by have:=hL.1;simpa using this) (fun i t v h1 h2=>hL.2 i t v h1 (by simpa [aZ] using h2));exact this
  |_=>simp[aM] at hok
 |_=>rw[hop] at hok;simp[aM] at hok
theorem bU(R:Rel F Pr w0 lb N E n t o a w){x:Option O}{y:Option Operand}{dflt m:Nat}(hok:g_ F x y=true)(h:fT t dflt x=some m):
  (y=none∧m=dflt∧x=none)∨∃y' k,y=some y'∧a.eval y'= .int k (m:Int)∧x.isSome:=by
 cases x with
 |none=>cases y with
  |none=>simp[fT] at h;exact .inl ⟨rfl,h.symm,rfl⟩
  |some y=>simp[g_] at hok
 |some x=>cases y with
  |none=>simp[g_] at hok
  |some y=>obtain⟨k,hk⟩:=cd R hok h;exact .inr ⟨y,k,rfl,hk,rfl⟩
theorem run_sliceBound{m y:Nat}{k:IntKind}{code:BoundsCode}(h:m≤y):(Instr.sliceBound (.int k (m:Int)) y code).run P w= .ok m w:=by
 have:(0:Int)≤m∧(m:Int)≤y:=by omega
 simp[Instr.sliceBound,asIntOf,this]
theorem nc(R:Rel F Pr w0 lb N E n t o a w){nn:Nat}{n':Nat→Prop}(hn:Fr n nn n'){cf:au}{d:Nat}{x:O}{lo hi:Option O}{oper:Oper}(hok:aM P F (.gY x lo hi) oper.op=true){v:V}{aK:List (Nat×Ob)}
  (h:act cf nn d t o (.gY x lo hi)=some (v,aK)):dz P F Pr w0 lb N n' t o a w oper v aK:=by
 cases hop:oper.op with
 |slice ty y lo' hi' mx'=>
  rw[hop] at hok;cases mx' with
  |some _=>simp[aM] at hok
  |none=>
   simp only[aM,ae] at hok;obtain⟨⟨⟨hs,hx⟩,hlo⟩,hhi⟩:=hok;simp only[act] at h;split at h
   ·rename_i s hl;split at h
    ·rename_i l u h1 h2;split at h
     ·rename_i hc;cases h;have hr:=(aG R hx hl).dC;refine az R hn.b8 (val:= .string (s.extract l u)) ?_ (.c _ _ (.str _));have hb:(Instr.sliceBounds false s.size s.size (lo'.map a.eval) (hi'.map a.eval) none).run P w= .ok (l,u,s.size) w:=by
       rcases bU R hlo h1 with⟨rfl,rfl,_⟩|⟨y1,k1,rfl,e1,_⟩<;>rcases bU R hhi h2 with⟨rfl,rfl,_⟩|⟨y2,k2,rfl,e2,_⟩
       ·simp[Instr.sliceBounds]
       ·simp[Instr.sliceBounds,e2,run_sliceBound hc.2]
       ·simp[Instr.sliceBounds,e1,run_sliceBound hc.1]
       ·simp[Instr.sliceBounds,e1,e2,run_sliceBound hc.1,run_sliceBound hc.2]
      simp[execOp,hop,hr,Instr.sliceAt,run_underlying (ei hs),Instr.slice,hb]
     ·cases h
    ·cases h
   ·cases h
 |_=>rw[hop] at hok;simp[aM] at hok
theorem bc.empty{X:Cx}(own:Bool)(sz:Nat)(A:Option Addr)(c:Nat):bc X (.sl own sz []) (.slice A 0 c):=
 .sl own sz [] A c (fun _ _=>undef) (by simp) (fun i r h=>by simp at h) (fun i j r t h=>by simp at h) (fun i j r t h=>by simp at h) (fun i j r t h=>by simp at h)
theorem oz(R:Rel F Pr w0 lb N E n t o a w){nn:Nat}{n':Nat→Prop}(hn:Fr n nn n'){cf:au}{d sz:Nat}{x:O}{lo hi mx:Option O}{oper:Oper}(hok:aM P F (.oX sz x lo hi mx) oper.op=true){v:V}{aK:List (Nat×Ob)}
  (h:act cf nn d t o (.oX sz x lo hi mx)=some (v,aK)):dz P F Pr w0 lb N n' t o a w oper v aK:=by
 cases hop:oper.op with
 |slice ty y lo' hi' mx'=>
  rw[hop] at hok;simp only[aM] at hok;split at hok
  ·rename_i e he;simp only[ae,beq_iff_eq] at hok;obtain⟨⟨⟨⟨⟨hsz,hx⟩,hlo⟩,hhi⟩,hmx⟩,hmh⟩:=hok;simp only[act] at h;split at h
   ·rename_i z hz;split at h
    ·rename_i len hlen;split at h
     ·rename_i l u m h1 h2 h3;split at h
      ·rename_i hc;have hr:=aG R hx hz;generalize hv:a.eval y=val at hr;have hshape:∃A c,val= .slice A len c∧len≤c:=by
        cases z<;>simp only[lenOf,af,reduceCtorEq] at hlen
        ·subst hlen;cases hr;exact⟨_,_,rfl,Nat.le_refl _⟩
        ·subst hlen;cases hr;exact⟨_,_,rfl,by assumption⟩
        ·subst hlen;cases hr
         ·exact⟨_,_,rfl,by omega⟩
         ·exact⟨_,_,rfl,Nat.le_refl _⟩
       obtain⟨A,c,rfl,hlc⟩:=hshape;have hb:∃m',u≤m'∧(mx=none→m'=c)∧(Instr.sliceBounds true len c (lo'.map a.eval) (hi'.map a.eval) (mx'.map a.eval)).run P w= .ok (l,u,m') w:=by
        rcases bU R hmx h3 with⟨rfl,rfl,rfl⟩|⟨y3,k3,rfl,e3,e4⟩
        ·refine⟨c,by omega,fun _=>rfl, ?_⟩;rcases bU R hlo h1 with⟨rfl,rfl,_⟩|⟨y1,k1,rfl,e1,_⟩<;>rcases bU R hhi h2 with⟨rfl,rfl,_⟩|⟨y2,k2,rfl,e2,_⟩
         ·simp[Instr.sliceBounds]
         ·simp[Instr.sliceBounds,e2,run_sliceBound (show u≤c by omega)]
         ·simp[Instr.sliceBounds,e1,run_sliceBound (show l≤u by omega)]
         ·simp[Instr.sliceBounds,e1,e2,run_sliceBound (show l≤u by omega),run_sliceBound (show u≤c by omega)]
        ·refine⟨m,by omega,fun q=>by rw[q] at e4;simp at e4, ?_⟩;rcases bU R hhi h2 with⟨rfl,rfl,rfl⟩|⟨y2,k2,rfl,e2,_⟩
         ·simp at hmh;rw[hmh] at e4;simp at e4
         ·rcases bU R hlo h1 with⟨rfl,rfl,_⟩|⟨y1,k1,rfl,e1,_⟩
          ·simp[Instr.sliceBounds,e2,e3,run_sliceBound (show u≤m by omega),run_sliceBound (show m≤c by omega)]
          ·simp[Instr.sliceBounds,e1,e2,e3,run_sliceBound (show l≤u by omega),run_sliceBound (show u≤m by omega),run_sliceBound (show m≤c by omega)]
       obtain⟨m',hum,hmc,hb⟩:=hb;have hrun:(execOp a.eval oper).run P w= .ok (.value (.slice (if m'=l then A else A.map (·.add (l*sz))) (u-l) (m'-l))) w:=by
        simp[execOp,hop,hv,Instr.sliceAt,run_underlying (bh he),Instr.slice,hb,aN hsz]
       split at h
       ·cases h;exact az R hn.b8 hrun (.undef _ (by intro b h;cases h))
       ·rename_i hmn;have hmx0:mx=none:=by simpa using hmn
        have hm':=hmc hmx0;subst hm';split at h<;>first|(cases h;done)|skip
        ·cases h;simp only[lenOf,af] at hlen;subst hlen;refine az R hn.b8 hrun (.c _ _ ?_);generalize hq:Value.slice A 0 m'=q at hr;cases hr;cases hq;have:u=0:=by omega
         have:l=0:=by omega
         subst u l;exact .cA _
        ·rename_i own sz' rows;split at h
         ·rename_i hse;subst hse;cases h;simp only[lenOf,af] at hlen;subst hlen;refine az R hn.b8 hrun (.c _ _ ?_);by_cases hlu:l=u
          ·subst hlu;simp only[Nat.sub_self,List.take_zero];exact .empty _ _ _ _
          ·rw[if_neg (by omega)];generalize hq:Value.slice A rows.length m'=q at hr;cases hr with
           |sl _ _ _ A' c' vs k1 k2 k3 k4 k5=>
            cases hq;have hL:((rows.drop l).take (u-l)).length=u-l:=by simp;omega
            have key:∀(i:Nat) (r:List T),((rows.drop l).take (u-l))[i]? =some r→rows[l+i]? =some r:=by
             intro i r hr;rw[aC] at hr;split at hr
             ·rw[aL] at hr;exact hr
             ·cases hr
            have:=bc.sl (X:=cx F Pr E o w) false sz' ((rows.drop l).take (u-l)) (A.map (·.add (l*sz'))) (m'-l) (fun i j=>vs (l+i) j) (by rw[hL];omega) (fun i r hr=>k2 _ r (key i r hr)) ?_ (fun i j r t hr ht=>k4 _ _ r t (key i r hr) ht) (fun i j r t hr ht=>k5 _ _ r t (key i r hr) ht)
            ·rw[hL] at this;exact this
            ·intro i j r t hr ht;obtain⟨ad,rfl,hu,hc⟩:=k3 _ _ r t (key i r hr) ht;refine⟨_,rfl,by rw[bo];exact hu, ?_⟩;rw[add_add,←hc];congr 2;rw[Nat.add_mul];omega
         ·cases h
        ·rename_i id ar off len';split at h
         ·rename_i ob hg;split at h
          ·rename_i hcd;obtain⟨hver,hbx,hse⟩:=hcd;simp only[lenOf,af] at hlen;subst hlen;split at h
           ·rename_i hlu;cases h;refine az R hn.b8 hrun (.c _ _ ?_);rw[←hlu.1,Nat.sub_self];exact .empty _ _ _ _
           ·rename_i hlu;cases h;refine az R hn.b8 hrun (.c _ _ ?_);generalize hq:Value.slice A len' m'=q at hr;cases hr with
            |row _ _ _ _ cap sz2 b hE hfit ho=>
             cases hq;obtain⟨e1,_⟩:=bO R hg hver hE;have e2:sz2=sz:=by rw[e1,hse]
             subst e2;have r0:=bc.row (X:=cx F Pr E o w) id ar (off+l) (u-l) cap sz2 b hE (by omega) (by omega);rw[show cap-(off+l)=cap-off-l from by omega,Nat.add_mul,←add_add] at r0;by_cases hl0:cap-off=l
             ·rw[if_pos hl0];have q1:l=0:=by omega
              rw[q1,Nat.zero_mul,add_zero] at r0;rw[q1];exact r0
             ·rw[if_neg hl0];exact r0
            |cI _ _ hE=>
             cases hq;have:u=0:=by omega
             have:l=0:=by omega
             subst u l;exact .cI _ _ hE
          ·cases h
         ·cases h
      ·cases h
     ·cases h
    ·cases h
   ·cases h
  ·cases hok
 |_=>rw[hop] at hok;simp[aM] at hok
theorem nf(R:Rel F Pr w0 lb N E n t o a w){nn:Nat}{n':Nat→Prop}(hn:Fr n nn n'){cf:au}{d sz:Nat}{x:O}{lo hi:Option O}{oper:Oper}(hok:aM P F (.jg sz x lo hi) oper.op=true){v:V}{aK:List (Nat×Ob)}
  (h:act cf nn d t o (.jg sz x lo hi)=some (v,aK)):dz P F Pr w0 lb N n' t o a w oper v aK:=by
 cases hop:oper.op with
 |slice ty y lo' hi' mx'=>
  rw[hop] at hok;cases mx' with
  |some _=>simp[aM] at hok
  |none=>
  simp only[aM] at hok;split at hok
  ·rename_i e he;simp only[ae,beq_iff_eq] at hok;obtain⟨⟨⟨hsz,hx⟩,hlo⟩,hhi⟩:=hok;simp only[act] at h;split at h
   ·rename_i id ar off len hz;split at h
    ·rename_i ob l u hg h1 h2;split at h
     ·rename_i hcd;obtain⟨hver,hbx,hse,hlu,hfit'⟩:=hcd;have hr:=aG R hx hz;generalize hv:a.eval y=val at hr;cases hr with
      |row _ _ _ _ cap sz2 b hE hfit ho=>
       obtain⟨e1,hob⟩:=bO R hg hver hE;have e2:sz2=sz:=by rw[e1,hse]
       subst e2;have hcap:=hob.len;have hb:(Instr.sliceBounds true len (cap-off) (lo'.map a.eval) (hi'.map a.eval) none).run P w= .ok (l,u,cap-off) w:=by
        rcases bU R hlo h1 with⟨rfl,rfl,_⟩|⟨y1,k1,rfl,e1,_⟩<;>rcases bU R hhi h2 with⟨rfl,rfl,_⟩|⟨y2,k2,rfl,e2,_⟩
        ·simp[Instr.sliceBounds]
        ·simp[Instr.sliceBounds,e2,run_sliceBound (show u≤cap-off by omega)]
        ·simp[Instr.sliceBounds,e1,run_sliceBound (show l≤u by omega)]
        ·simp[Instr.sliceBounds,e1,e2,run_sliceBound (show l≤u by omega),run_sliceBound (show u≤cap-off by omega)]
       have hrun:(execOp a.eval oper).run P w= .ok (.value (.slice (if cap-off=l then some ((aY b).add (off*sz2)) else(some ((aY b).add (off*sz2))).map (·.add (l*sz2))) (u-l) (cap-off-l))) w:=by
        simp[execOp,hop,hv,Instr.sliceAt,run_underlying (bh he),Instr.slice,hb,aN hsz]
       split at h
       ·rename_i hlu2;cases h;refine az R hn.b8 hrun (.c _ _ ?_);rw[←hlu2.1,Nat.sub_self];exact .empty _ _ _ _
       ·rename_i hlu2;cases h;refine az R hn.b8 hrun (.c _ _ ?_);have r0:=bc.row (X:=cx F Pr E o w) id ar (off+l) (u-l) cap sz2 b hE (by omega) (by omega);rw[show cap-(off+l)=cap-off-l from by omega,Nat.add_mul,←add_add] at r0;by_cases hl0:cap-off=l
        ·rw[if_pos hl0];have q1:l=0:=by omega
         rw[q1,Nat.zero_mul,add_zero] at r0;rw[q1];exact r0
        ·rw[if_neg hl0];exact r0
      |cI _ _ hE=>
       have hrows:ob.rows=[]:=by
        obtain⟨_,l,hl,hr⟩:=R.cS id ob hg;have hE':E ar=some .nil:=hE;rw[hver,hE'] at hl;cases hl;exact hr.1
       have hu:u=0:=by rw[hrows] at hfit';simpa using hfit'
       have hl:l=0:=by omega
       have hb:(Instr.sliceBounds true 0 0 (lo'.map a.eval) (hi'.map a.eval) none).run P w= .ok (l,u,0) w:=by
        rcases bU R hlo h1 with⟨rfl,q1,_⟩|⟨y1,k1,rfl,e1,_⟩<;>rcases bU R hhi h2 with⟨rfl,q2,_⟩|⟨y2,k2,rfl,e2,_⟩
        ·simp[Instr.sliceBounds,hu,hl]
        ·simp[Instr.sliceBounds,e2,run_sliceBound (show u≤0 by omega),hl]
        ·simp[Instr.sliceBounds,e1,run_sliceBound (show l≤0 by omega),hu]
        ·simp[Instr.sliceBounds,e1,e2,run_sliceBound (show l≤u by omega),run_sliceBound (show u≤0 by omega)]
       subst hu hl;have hrun:(execOp a.eval oper).run P w= .ok (.value (.slice none 0 0)) w:=by
        simp[execOp,hop,hv,Instr.sliceAt,run_underlying (bh he),Instr.slice,hb,aN hsz]
       simp at h;obtain⟨rfl,rfl⟩:=h;exact az R hn.b8 hrun (.c _ _ (.cI _ _ hE))
     ·cases h
    ·cases h
   ·cases h
  ·cases hok
 |_=>rw[hop] at hok;simp[aM] at hok
theorem Rel.over(R:Rel F Pr w0 lb N E n t o a w){w':World}{E':Nat→Option Loc}{n':Nat→Prop}{id:Nat}{ob ob':Ob}{b cap p:Nat}{vs:List Value}(hg:get o id=some ob)(hwr:ob.w=true)
  (hE:E ob.ar=some (.bQ b cap ob.sz)) (hsz:ob'.sz=ob.sz) (hlen:ob'.rows.length≤cap) (hwid:∀(i:Nat) (r:List T),ob'.rows[i]? =some r→r.length=ob.sz)
  (hcl:ob'.bx=false→∀(i j:Nat) (r:List T) (t:T),ob'.rows[i]? =some r→r[j]? =some t→aH t)
  (hfit:p+vs.length≤cap*ob.sz) (h1:∀v∈vs,v.oneCell'=true)
  (hc:∀(i j:Nat) (r:List T) (t:T),ob'.rows[i]? =some r→r[j]? =some t→
   (p≤i*ob.sz+j∧i*ob.sz+j<p+vs.length∧∀v,vs[i*ob.sz+j-p]? =some v→bc (cx F Pr E o w) t v)∨
   ((i*ob.sz+j<p∨p+vs.length≤i*ob.sz+j)∧∃r0,ob.rows[i]? =some r0∧r0[j]? =some t))
  (hrun:(storeCells ((aY b).add p) vs).run P w= .ok () w')
  (hn:∀k,n k→n' k) (hEE:∀ar l,E ar=some l→E' ar=some l) (hfresh:∀ar l,E' ar=some l→n' ar) (hl:E' ob'.ar=some (.bQ b cap ob.sz)):
  Rel F Pr w0 lb N E' n' t ((id,ob')::o) a w'∧b9 (cx F Pr E o w) (cx F Pr E' ((id,ob')::o) w'):=by
 obtain⟨_,hl0,hwid0,_,cs,e,fr,m1,m2,m3,m4⟩:=bO R hg rfl hE;have m1':w.heap[b]? =some (.cells cs e fr):=m1;obtain⟨w2,cs',g1,g2,g3,g4,g5,g6,g7,g8,g9⟩:=bf (P:=P) vs 0 p cs w m1' (by rw[m2];omega) m3 h1;rw[hrun] at g1;cases g1;simp only[Nat.add_zero] at g9;have hbl:b<w.heap.size:=(R.place id ob b cap ob.sz hg hE).1;refine R.pA g2 g3 g4 (by omega) hn hEE hfresh ?_ (l':= .bQ b cap ob.sz) hl ?_ ?_
 ·intro k hk hno;by_cases e:k=b
  ·subst e;exact(hno ob cap ob.sz hg hwr hE).elim
  ·exact g6 k e
 ·intro b' cap' sz' hq;cases hq;exact⟨by rw[g5];exact hbl,.inr ⟨ob,cap,ob.sz,hg,hwr,hE⟩⟩
 ·intro K;refine⟨hsz.symm,hlen,by rw[hsz];exact hwid,hcl,cs',e,fr,g7,by rw[g8,hsz];exact m2,by rw[g8];exact m3, ?_⟩;intro i j r t hr ht;rw[hsz,g9];rcases hc i j r t hr ht with⟨q1,q2,q3⟩|⟨q1,r0,q2,q3⟩
  ·rw[if_pos ⟨q1,q2⟩];have hlt:i*ob.sz+j-p<vs.length:=by omega
   exact⟨vs[i*ob.sz+j-p],by simp[hlt],(q3 _ (by simp[hlt])).mono K⟩
  ·rw[if_neg (by omega)];obtain⟨v,hv,hrep⟩:=m4 i j r0 t q2 q3;exact⟨v,hv,hrep.mono K⟩
theorem mc(R:Rel F Pr w0 lb N E n t o a w){z:T}{val:Value}{rows:List (List T)}(hz:bc (cx F Pr E o w) z val)(hr:rowsOf o z=some rows):
  ∃A c,val= .slice A rows.length c∧rows.length≤c∧∀sz,(rows≠[]→eT o z=some sz)→(∀(i:Nat) (r:List T),rows[i]? =some r→r.length=sz)∧(∀(i j:Nat) (r:List T) (t:T),rows[i]? =some r→r[j]? =some t→aH t)∧
   ∀(i j:Nat) (r:List T) (t:T),rows[i]? =some r→r[j]? =some t→∃ad v,A=some ad∧w.cell? (ad.add (i*sz+j))=some v∧bc (cx F Pr E o w) t v:=by
 cases z<;>simp only[rowsOf,reduceCtorEq,af] at hr
 ·subst hr;cases hz;exact⟨none,0,rfl,Nat.le_refl _,fun sz _=>⟨fun i r h=>by simp at h,fun i j r t h=>by simp at h,fun i j r t h=>by simp at h⟩⟩
 ·rename_i own s rows';subst hr;cases hz with
  |sl _ _ _ A c vs h1 h2 h3 h4 h5=>
   refine⟨A,c,rfl,h1,fun sz hs=> ?_⟩;have hse:∀(i:Nat) (r:List T),rows'[i]? =some r→s=sz:=by
    intro i r hir;have:=hs (by intro q;subst q;simp at hir);simpa [eT] using this
   refine⟨fun i r hir=>by rw[←hse i r hir];exact h2 i r hir,h5,fun i j r t hir hjt=> ?_⟩;obtain⟨ad,rfl,_,hcell⟩:=h3 i j r t hir hjt;exact⟨ad,vs i j,rfl,by rw[←hse i r hir];exact hcell,h4 i j r t hir hjt⟩
 ·rename_i id ar off len;split at hr
  ·rename_i ob hg;split at hr
   ·rename_i hcd;cases hr;obtain⟨hver,hbx,hfit⟩:=hcd;have hlen:((ob.rows.drop off).take len).length=len:=by simp;omega
    have key:∀(i:Nat) (r:List T),((ob.rows.drop off).take len)[i]? =some r→ob.rows[off+i]? =some r:=by
     intro i r hr;rw[aC] at hr;split at hr
     ·rw[aL] at hr;exact hr
     ·cases hr
    rw[hlen];cases hz with
    |row _ _ _ _ cap sz b hE hl ho=>
     obtain⟨e1,h1,h2,hcl,cs,e,fr,m1,m2,m3,m4⟩:=bO R hg hver hE;subst e1;have m1':w.heap[b]? =some (.cells cs e fr):=m1;refine⟨_,_,rfl,by omega,fun sz hs=> ?_⟩;have hse:∀(i:Nat) (r:List T),((ob.rows.drop off).take len)[i]? =some r→ob.sz=sz:=by
      intro i r hir;have:=hs (by intro q;rw[q] at hir;simp at hir);simpa [eT,hg] using this
     refine⟨fun i r hir=>by rw[←hse i r hir];exact h2 _ r (key i r hir),fun i j r t hir hjt=>hcl hbx _ j r t (key i r hir) hjt,fun i j r t hir hjt=> ?_⟩;obtain⟨v,hv,hrep⟩:=m4 _ j r t (key i r hir) hjt;refine⟨_,v,rfl, ?_,hrep⟩;rw[←hse i r hir,add_add,cw,show off*ob.sz+(i*ob.sz+j)=(off+i)*ob.sz+j from by rw[Nat.add_mul];omega];simp[World.cell?,m1',hv]
    |cI _ _ hE=>
     refine⟨none,0,rfl,Nat.le_refl _,fun sz _=>⟨fun i r h=>by simp at h,fun i j r t h=>by simp at h,fun i j r t h=>by simp at h⟩⟩
   ·cases hr
  ·cases hr
theorem eK{sz:Nat}{rows:List (List T)}(hw:∀(i:Nat) (r:List T),rows[i]? =some r→r.length=sz)(hp:0<sz){q:Nat}(hq:q<rows.length*sz):
  ∃i j r t,q=i*sz+j∧rows[i]? =some r∧r[j]? =some t∧rows.flatten[q]? =some t:=by
 have hi:q/sz<rows.length:=by rw[Nat.div_lt_iff_lt_mul hp];exact hq
 have hm:q%sz<sz:=Nat.mod_lt _ hp;have hl:=hw (q/sz) rows[q/sz] (by simp[hi]);have hj:q%sz<rows[q/sz].length:=by rw[hl];exact hm
 have hd:q=q/sz*sz+q%sz:=by rw[Nat.mul_comm];exact(Nat.div_add_mod q sz).symm
 have hfl:=cU hw (i:=q/sz) (j:=q%sz) (r:=rows[q/sz]) (t:=rows[q/sz][q%sz]) (by simp[hi]) (by simp[hj]);rw[←hd] at hfl;exact⟨q/sz,q%sz,rows[q/sz],rows[q/sz][q%sz],hd,by simp[hi],by simp[hj],hfl⟩
theorem dH(R:Rel F Pr w0 lb N E n t o a w){z:T}{val:Value}{rows:List (List T)}{sz:Nat}(hz:bc (cx F Pr E o w) z val)(hr:rowsOf o z=some rows)(hs:rows≠[]→eT o z=some sz)(hp:0<sz):
  ∃A c cs,val= .slice A rows.length c∧(∀(i:Nat) (r:List T),rows[i]? =some r→r.length=sz)∧(∀(i j:Nat) (r:List T) (t:T),rows[i]? =some r→r[j]? =some t→aH t)∧aP (cx F Pr E o w) rows.flatten cs∧cs.length=rows.length*sz∧
   (∀k,(Builtin.firstCells sz rows.length val).run P {w with drawn:=k}= .ok cs.toArray {w with drawn:=k}):=by
 obtain⟨A,c,rfl,hlc,hm⟩:=mc R hz hr;obtain⟨hw,hcl,hm⟩:=hm sz hs;have hfl:=bX hw;refine⟨A,c,(List.range (rows.length*sz)).map (fun q=>(A.bind fun ad=>w.cell? (ad.add q)).getD undef),rfl,hw,hcl, ?_,by simp, ?_⟩
 ·refine⟨by simp[hfl],fun q t v ht hv=> ?_⟩;have hq:q<rows.length*sz:=by rw[←hfl];exact(List.getElem?_eq_some_iff.1 ht).1
  obtain⟨i,j,r,t',rfl,h1,h2,h3⟩:=eK hw hp hq;rw[ht] at h3;cases h3;obtain⟨ad,v',rfl,hc,hrep⟩:=hm i j r _ h1 h2;simp only[aZ,List.getElem?_range hq,bA,Option.bind_some,hc,bF,af] at hv;subst hv;exact hrep
 ·intro k;cases rows with
  |nil=>
   cases A with
   |none=>simp[Builtin.firstCells]
   |some ad=>
    rw[run_firstCells_some (P:=P) {w with drawn:=k} sz _ ad _ c [] (by simp) (by simp)]
    simp
  |cons r0 rs=>
   have h0:=hw 0 r0 (by simp);obtain⟨ad,v,rfl,_,_⟩:=hm 0 0 r0 r0[0] (by simp) (by simp[h0,hp]);refine run_firstCells_some (P:=P) {w with drawn:=k} sz _ ad _ c _ (by simp) ?_
   intro q v hv;have hq:q<(r0::rs).length*sz:=by have:=(List.getElem?_eq_some_iff.1 hv).1;simpa using this
   obtain⟨i,j,r,t',rfl,h1,h2,h3⟩:=eK hw hp hq;obtain⟨ad',v',had,hc,hrep⟩:=hm i j r _ h1 h2;cases had;simp only[aZ,List.getElem?_range hq,bA,Option.bind_some,hc,bF,af] at hv;subst hv;exact hc
theorem oG(R:Rel F Pr w0 lb N E n t o a w){nn:Nat}{n':Nat→Prop}(hn:Fr n nn n'){cf:au}{d:Nat}{x y:O}{oper:Oper}{c:Call}(hop:oper.op= .call c)(hok:eA P F (.max x y) c=true){v:V}{aK:List (Nat×Ob)}
  (h:act cf nn d t o (.max x y)=some (v,aK)):dz P F Pr w0 lb N n' t o a w oper v aK:=by
 obtain⟨cal,as,ats⟩:=c;cases cal with
 |value=>simp[eA] at hok
 |invoke=>simp[eA] at hok
 |builtin b=>
  simp only[eA] at hok;obtain⟨x',y',rfl,h1,hx,hy⟩:=n5 hok;have h1:=lL h1;subst h1;simp only[act] at h;split at h
  ·rename_i p q hp hq;simp only[aa,ah] at h;obtain⟨r,hr,rfl,rfl⟩:=h;have h2:=aG R hx hp;have h3:=aG R hy hq;unfold max2 at hr;split at hr
   ·split at hr
    ·rename_i hk;subst hk;cases hr;exact az R hn.b8 (by simp[execOp,hop,resolve,invoke,builtin,Builtin.max_,h2.cJ,h3.cJ,Builtin.max2]) (.c _ _ (.int _ _))
    ·cases hr
   ·rename_i s s';cases hr;have hb:∀a b,cH a b=Op.bytesLess a b:=by
     intro a
     induction a with
     |nil=>intro b;cases b<;>rfl
     |cons c a ih=>intro b;cases b with|nil=>rfl|cons d b=>simp[cH,Op.bytesLess,ih]
    refine az R hn.b8 (val:= .string (if cH s.toList s'.toList then s' else s)) ?_ (.c _ _ (.str _));have hm:(Builtin.max2 (.string s) (.string s')).run P w= .ok (.string (if cH s.toList s'.toList then s' else s)) w:=by
     rw[hb];cases hq2:Op.bytesLess s.toList s'.toList<;>simp[Builtin.max2,Op.stringOp,asBool,hq2]
    simp[execOp,hop,resolve,invoke,builtin,Builtin.max_,h2.dC,h3.dC,hm]
   ·cases hr
  ·cases h
theorem oF(R:Rel F Pr w0 lb N E n t o a w){nn:Nat}{n':Nat→Prop}(hn:Fr n nn n'){cf:au}{d:Nat}{x y:O}{oper:Oper}{c:Call}(hop:oper.op= .call c)(hok:eA P F (.min x y) c=true){v:V}{aK:List (Nat×Ob)}
  (h:act cf nn d t o (.min x y)=some (v,aK)):dz P F Pr w0 lb N n' t o a w oper v aK:=by
 obtain⟨cal,as,ats⟩:=c;cases cal with
 |value=>simp[eA] at hok
 |invoke=>simp[eA] at hok
 |builtin b=>
  simp only[eA] at hok;obtain⟨x',y',rfl,h1,hx,hy⟩:=n4 hok;have h1:=lL h1;subst h1;simp only[act] at h;split at h
  ·rename_i p q hp hq;simp only[aa,ah] at h;obtain⟨r,hr,rfl,rfl⟩:=h;have h2:=aG R hx hp;have h3:=aG R hy hq;unfold min2 at hr;split at hr
   ·split at hr
    ·rename_i hk;subst hk;cases hr;exact az R hn.b8 (by simp[execOp,hop,resolve,invoke,builtin,Builtin.min_,h2.cJ,h3.cJ,Builtin.min2]) (.c _ _ (.int _ _))
    ·cases hr
   ·cases hr
  ·cases h
theorem bD{zero:List T}{v:Value}{X:Cx}(h:aP X zero v.cells.toList)(hp:0<zero.length)(k:Nat):
  (Builtin.zeroCells v.cells k).toList=(List.replicate k v.cells.toList).flatten:=by
 have hl:v.cells.size=zero.length:=by have:=h.1;simpa using this.symm
 have hpos:0<v.cells.size:=by omega
 apply List.ext_getElem?;intro q;by_cases hq:q<k*v.cells.size
 ·have hi:q/v.cells.size<k:=by rw[Nat.div_lt_iff_lt_mul hpos];exact hq
  have hm:q%v.cells.size<v.cells.size:=Nat.mod_lt _ hpos;have e:∀(k:Nat) (q:Nat),q<k*v.cells.size→(List.replicate k v.cells.toList).flatten[q]? =v.cells.toList[q%v.cells.size]? :=by
   intro k
   induction k with
   |zero=>intro q hq;omega
   |succ k ih=>
    intro q hq;rw[List.replicate_succ,List.flatten_cons];by_cases h1:q<v.cells.size
    ·rw[List.getElem?_append_left (by simpa using h1),Nat.mod_eq_of_lt h1]
    ·rw[List.getElem?_append_right (by simpa using h1),Nat.mod_eq_sub_mod (by omega)];simp only[Array.length_toList];exact ih _ (by rw[Nat.succ_mul] at hq;omega)
  rw[e k q hq];simp[Builtin.zeroCells,aZ,List.getElem?_range hq,hm]
 ·have l1:(Builtin.zeroCells v.cells k).toList.length=k*v.cells.size:=by simp[Builtin.zeroCells]
  have l2:(List.replicate k v.cells.toList).flatten.length=k*v.cells.size:=by simp[List.length_flatten,List.map_replicate,List.sum_replicate_nat]
  rw[bG (by omega),bG (by omega)]
theorem cb{zero:List T}{k:Nat}:∀(i:Nat) (r:List T),(List.replicate k zero)[i]? =some r→r.length=zero.length:=by
 intro i r h;rw[List.getElem?_replicate] at h;split at h
 ·cases h;rfl
 ·cases h
theorem cR{zero:List T}{k:Nat}(hz:∀(i:Nat) (t:T),zero[i]? =some t→aH t):∀(i j:Nat) (r:List T) (t:T),(List.replicate k zero)[i]? =some r→r[j]? =some t→aH t:=by
 intro i j r t h ht;rw[List.getElem?_replicate] at h;split at h
 ·cases h;exact hz j t ht
 ·cases h
theorem oM(R:Rel F Pr w0 lb N E n t o a w){nn:Nat}{n':Nat→Prop}(hn:Fr n nn n'){cf:au}{d:Nat}{zero:List T}{x:O}{oper:Oper}{c:Call}(hop:oper.op= .call c)(hok:eA P F (.o3 zero x) c=true){v:V}{aK:List (Nat×Ob)}
  (h:act cf nn d t o (.o3 zero x)=some (v,aK)):dz P F Pr w0 lb N n' t o a w oper v aK:=by
 obtain⟨cal,as,ats⟩:=c;cases cal with
 |value=>simp[eA] at hok
 |invoke=>simp[eA] at hok
 |builtin b=>
  simp only[eA] at hok;obtain⟨y,ty,e,rfl,h1,h2,hx,he,hz,hpos⟩:=n7 hok;have h1:=lM h1;have h2:=lM h2;subst h1 h2;have hnone:∀A c,(A=none∨True)→(Builtin.clear_ #[ty] oper.type #[.slice A 0 c]).run P w= .ok (.tuple #[]) w:=by
   intro A c _;cases A<;>simp[Builtin.clear_,run_underlying (bh he)]
  simp only[act] at h;split at h
  ·rename_i hl;cases h;have hr:=aG R hx hl;generalize hv:a.eval y=val at hr;cases hr;exact az R hn.b8 (by simp[execOp,hop,hv,resolve,invoke,builtin,hnone];rfl) (.undef _ (by intro b h;cases h))
  ·rename_i hl;cases h;have hr:=aG R hx hl;generalize hv:a.eval y=val at hr;cases hr;exact az R hn.b8 (by simp[execOp,hop,hv,resolve,invoke,builtin,hnone];rfl) (.undef _ (by intro b h;cases h))
  ·rename_i id ar off len hl;split at h
   ·rename_i ob hg;split at h
    ·rename_i h0;subst h0;cases h;have hr:=aG R hx hl;generalize hv:a.eval y=val at hr;cases hr with
     |row=>exact az R hn.b8 (by simp[execOp,hop,hv,resolve,invoke,builtin,hnone];rfl) (.undef _ (by intro b h;cases h))
     |cI=>exact az R hn.b8 (by simp[execOp,hop,hv,resolve,invoke,builtin,hnone];rfl) (.undef _ (by intro b h;cases h))
    ·rename_i h0;split at h
     ·rename_i hcd;cases h;obtain⟨hver,hw,hbx,hsz,hfit⟩:=hcd;have hr:=aG R hx hl;generalize hv:a.eval y=val at hr;cases hr with
      |row _ _ _ _ cap sz b hE hlc ho=>
       obtain⟨e1,_⟩:=bO R hg hver hE;subst e1;have hE2:E ob.ar=some (.bQ b cap ob.sz):=by rw[hver];exact hE
       obtain⟨_,hl0,hwid,hclo,cs,e',fr,m1,m2,m3,m4⟩:=bO R hg rfl hE2;have m1':w.heap[b]? =some (.cells cs e' fr):=m1;obtain⟨zv,hzv,hzr,_,hzc⟩:=cP (P:=P) (X:=cx F Pr E o w) hz;have hzl:=bD hzr hpos len;have hzL:aP (cx F Pr E o w) (List.replicate len zero).flatten (Builtin.zeroCells zv.cells len).toList:=by rw[hzl];exact hzr.replicate len
       have hlenv:(Builtin.zeroCells zv.cells len).toList.length=len*ob.sz:=by
        rw[←hzL.1,bX cb,hsz];simp
       have hfit2:off*ob.sz+(Builtin.zeroCells zv.cells len).toList.length≤cap*ob.sz:=by
        rw[hlenv,←Nat.add_mul];exact aE _ hlc
       obtain⟨w',cs',g1,_⟩:=bf (P:=P) (Builtin.zeroCells zv.cells len).toList 0 (off*ob.sz) cs w m1' (by rw[m2];omega) m3 hzL.one;have H1:∀(i:Nat) (r:List T),(ob.rows.take off++List.replicate len zero++ob.rows.drop (off+len))[i]? =some r→r.length=ob.sz:=by
        intro i r hr;rw[ba,aF] at hr;split at hr
        ·rw[aC] at hr;split at hr
         ·exact hwid i r hr
         ·cases hr
        ·rw[aF] at hr;split at hr
         ·rw[hsz];exact cb _ r hr
         ·rw[aL] at hr;exact hwid _ r hr
       have H2:∀(i j:Nat) (r:List T) (t:T),(ob.rows.take off++List.replicate len zero++ob.rows.drop (off+len))[i]? =some r→r[j]? =some t→
         (off*ob.sz≤i*ob.sz+j∧i*ob.sz+j<off*ob.sz+(Builtin.zeroCells zv.cells len).toList.length∧∀v,(Builtin.zeroCells zv.cells len).toList[i*ob.sz+j-off*ob.sz]? =some v→bc (cx F Pr E o w) t v)∨
         ((i*ob.sz+j<off*ob.sz∨off*ob.sz+(Builtin.zeroCells zv.cells len).toList.length≤i*ob.sz+j)∧∃r0,ob.rows[i]? =some r0∧r0[j]? =some t):=by
        intro i j r t hr ht;have hto:(ob.rows.take off).length=off:=by simp;omega
        have hjs:∀r':List T,r'.length=ob.sz→r'[j]? =some t→j<ob.sz:=fun r' h1 h2=>by rw[←h1];exact(List.getElem?_eq_some_iff.1 h2).1
        rw[ba,aF,hto] at hr;split at hr
        ·rename_i hio;rw[aC,if_pos hio] at hr;have:=bH hio (hjs r (hwid i r hr) ht);exact .inr ⟨.inl this,r,hr,ht⟩
        ·rename_i hio;rw[aF] at hr;simp only[List.length_replicate] at hr;split at hr
         ·rename_i hil;refine .inl ⟨?_, ?_,fun v hvv=> ?_⟩
          ·have:=aE ob.sz (Nat.le_of_not_lt hio);omega
          ·rw[hlenv,←Nat.add_mul];exact bH (by omega) (hjs r (by rw[cb _ r hr,hsz]) ht)
          ·have hf:=cU (cb (zero:=zero) (k:=len)) hr ht;refine hzL.2 _ t v hf ?_;rw[←hvv,←hsz];congr 1;obtain⟨k,rfl⟩:∃k,i=off+k:=⟨i-off,by omega⟩
           rw[Nat.add_mul];simp;omega
         ·rename_i hil;rw[aL,show off+len+(i-off-len)=i from by omega] at hr;refine .inr ⟨.inr ?_,r,hr,ht⟩;rw[hlenv,←Nat.add_mul];have:=aE ob.sz (show off+len≤i by omega);omega
       have H3:ob.bx=false→∀(i j:Nat) (r:List T) (t:T),(ob.rows.take off++List.replicate len zero++ob.rows.drop (off+len))[i]? =some r→r[j]? =some t→aH t:=by
        intro hb i j r t hr ht;rw[ba,aF] at hr;split at hr
        ·rw[aC] at hr;split at hr
         ·exact hclo hb i j r t hr ht
         ·cases hr
        ·rw[aF] at hr;split at hr
         ·exact cR hzc _ j r t hr ht
         ·rw[aL] at hr;exact hclo hb _ j r t hr ht
       obtain⟨R2,K⟩:=R.over (n':=n) (ob':={ob with rows:=ob.rows.take off++List.replicate len zero++ob.rows.drop (off+len)}) hg hw hE2 rfl (by simp;omega) H1 H3 hfit2 hzL.one H2 g1 (fun _ h=>h) (fun _ _ h=>h) R.fresh hE2
       ·refine⟨.tuple #[],w',E,.inl ?_,R2.same rfl rfl rfl rfl hn.b8,.undef _ (by intro b h;cases h)⟩;have:(Builtin.clear_ #[ty] oper.type #[.slice (some ((aY b).add (off*ob.sz))) len (cap-off)]).run P w= .ok (.tuple #[]) w':=by
         cases len with
         |zero=>exact(h0 rfl).elim
         |succ len=>simp[Builtin.clear_,run_underlying (bh he),bS hzv,g1]
        simp[execOp,hop,hv,resolve,invoke,builtin,this]
      |cI=>exact(h0 rfl).elim
     ·cases h
   ·cases h
  ·cases h
theorem ki(s:ByteArray):(bM s).flatten=s.data.toList.map fun b=>T.int .u8 b.toNat:=by
 unfold bM
 induction s.data.toList with
 |nil=>rfl
 |cons b l ih=>simp only[aI,List.flatten_cons,ih];rfl
theorem jz(s:ByteArray):s.extract 0 s.size=s:=by
 apply ByteArray.ext;simp
theorem kV(R:Rel F Pr w0 lb N E n t o a w){z:T}{val:Value}{ys:List (List T)}{sz:Nat}(hz:bc (cx F Pr E o w) z val)(hp:0<sz)
  (hys:fB o sz z=some ys):
  ∃cs,(∀(i:Nat) (r:List T),ys[i]? =some r→r.length=sz)∧(∀(i j:Nat) (r:List T) (t:T),ys[i]? =some r→r[j]? =some t→aH t)∧aP (cx F Pr E o w) ys.flatten cs∧cs.length=ys.length*sz∧(Builtin.lenOf val).run P w= .ok ys.length w∧
   (∀k,(Builtin.firstCells sz ys.length val).run P {w with drawn:=k}= .ok cs.toArray {w with drawn:=k}):=by
 have gen:∀z:T,bc (cx F Pr E o w) z val→(match rowsOf o z with|some ys=>if ys.isEmpty=true∨eT o z=some sz then some ys else none|none=>none)=some ys→∃cs,(∀(i:Nat) (r:List T),ys[i]? =some r→r.length=sz)∧(∀(i j:Nat) (r:List T) (t:T),ys[i]? =some r→r[j]? =some t→aH t)∧aP (cx F Pr E o w) ys.flatten cs∧cs.length=ys.length*sz∧(Builtin.lenOf val).run P w= .ok ys.length w∧
   (∀k,(Builtin.firstCells sz ys.length val).run P {w with drawn:=k}= .ok cs.toArray {w with drawn:=k}):=by
  intro z hz hys;have h2:rowsOf o z=some ys∧(ys≠[]→eT o z=some sz):=by
   split at hys
   ·rename_i ys' h;split at hys
    ·rename_i h3;cases hys;refine⟨h,fun hne=>h3.resolve_left (by simpa using hne)⟩
    ·cases hys
   ·cases hys
  obtain⟨A,c,cs,rfl,h3,hcl,h4,h5,h6⟩:=dH (P:=P) R hz h2.1 h2.2 hp;exact⟨cs,h3,hcl,h4,h5,by simp[Builtin.lenOf],h6⟩
 cases z with
 |str s=>
  cases hz;simp only[fB] at hys;split at hys
  ·rename_i h1;subst h1;cases hys;refine⟨s.data.toList.map fun b=> .int .u8 b.toNat, ?_, ?_, ?_,by simp[bM], ?_, ?_⟩
   ·intro i r hr;simp only[bM,aZ,aa] at hr;obtain⟨b,_,rfl⟩:=hr;rfl
   ·intro i j r t hr ht;simp only[bM,aZ,aa] at hr;obtain⟨b,_,rfl⟩:=hr;cases j with
    |zero=>simp at ht;subst ht;exact .int _ _
    |succ j=>simp at ht
   ·rw[ki];refine⟨by simp,fun i t v ht hv=> ?_⟩;simp only[aZ,aa] at ht hv;obtain⟨b,hb,rfl⟩:=ht;obtain⟨b',hb',rfl⟩:=hv;rw[hb] at hb';cases hb';exact .int _ _
   ·have:(bM s).length=s.size:=by simp[bM]
    simp[Builtin.lenOf,this]
   ·intro k;have:(bM s).length=s.size:=by simp[bM]
    rw[this];simp only[Builtin.firstCells,jz];simp only[Sem.run_pure];congr 1;apply Array.ext';simp
  ·cases hys
 |_=>exact gen _ hz hys
theorem iW{ty u e:TypeId}{d:TypeDesc}{sz bytes sLen sCap k:Nat}{base:Option Addr}{x zv:Value}{tyr:TypeId}(he:aV P ty=some e)(hsz:bw P e=some sz)(hu:P.underlying u=some d)(hd:∀k,d≠.int k)
  (hb:dB P e=some bytes) (hzv:dU P e=some zv) (hzs:zv.cells.size=sz) (hbytes:bytes≤4096) (hneed:sLen+k≤4294967296) {b8 new:Array Value} (hl:(Builtin.lenOf x).run P w= .ok k w)
  (hnew:∀q,(Builtin.firstCells sz k x).run P {w with drawn:=q}= .ok new {w with drawn:=q}) (hold:∀q,(Builtin.firstCells sz sLen (.slice base sLen sCap)).run P {w with drawn:=q}= .ok b8 {w with drawn:=q}) (_hos:b8.size=sLen*sz) (_hns:new.size=k*sz):
  (sLen+k≤sCap→∀w',(match base with|some a=>(storeCells (a.add (sLen*sz)) new.toList).run P w= .ok () w'|none=>w'=w)→
   (Builtin.append_ #[ty,u] tyr #[.slice base sLen sCap,x]).run P w= .ok (.slice base (sLen+k) sCap) w')∧
  (sCap<sLen+k→∃cap rest w',sLen+k≤cap∧rest.size=(cap-(sLen+k))*sz∧w'.os=w.os∧w'.tape=w.tape∧w'.output=w.output∧w'.heap=w.heap.push (.cells (b8++new++rest) e)∧
   (Builtin.append_ #[ty,u] tyr #[.slice base sLen sCap,x]).run P w= .ok (.slice (some (aY w.heap.size)) (sLen+k) cap) w'):=by
 obtain⟨i,hi,hib⟩:∃i,P.info? e=some i∧i.bytes=bytes:=by
  unfold dB at hb;cases hi:P.info? e with
  |none=>simp[hi] at hb
  |some i=>exact⟨i,rfl,by simpa [hi] using hb⟩
 have hni:(match d with| .int _=>true|_=>false)=false:=by
  cases d<;>first|rfl|exact absurd rfl (hd _)
 constructor
 ·intro hle w' hst;have hnew0:(Builtin.firstCells sz k x).run P w= .ok new w:=hnew w.drawn;cases base with
  |none=>
   simp only at hst;subst hst;simp[Builtin.append_,run_underlying (bh he),aN hsz,run_underlying hu,hl,hle,hnew0]
  |some ad=>
   simp only at hst;simp[Builtin.append_,run_underlying (bh he),aN hsz,run_underlying hu,hl,hle,hnew0,hst]
 ·intro hlt;have hnle:¬(sLen+k≤sCap):=by omega
  have hfits:Builtin.nextslicecap (sLen+k) sCap*i.bytes≤281474976710656:=by
   refine growslice_fits hlt ?_;rw[hib]
   calc (sLen+k)*bytes≤4294967296*4096:=Nat.mul_le_mul hneed hbytes
    _≤140737488355328:=by decide
  have hfits2:¬(Builtin.nextslicecap (sLen+k) sCap*i.bytes>2^48):=by omega
  have hmax:¬((sLen:Int)+k>IntKind.i64.max):=by
   have:IntKind.i64.max=9223372036854775807:=by decide
   rw[this];omega
  refine⟨sLen+k+w.tape w.drawn (.appendCap (sLen+k) sCap e)%(9223372036854775808-(sLen+k)),Builtin.zeroCells zv.cells (w.tape w.drawn (.appendCap (sLen+k) sCap e)%(9223372036854775808-(sLen+k))),
   w.drew.alloc (.cells (b8++new++Builtin.zeroCells zv.cells (w.tape w.drawn (.appendCap (sLen+k) sCap e)%(9223372036854775808-(sLen+k)))) e),Nat.le_add_right _ _,by simp[Builtin.zeroCells,hzs],rfl,rfl,rfl,rfl, ?_⟩
  have hforced:(Question.appendCap (sLen+k) sCap e).forced=false:=rfl;have hn1:(Builtin.firstCells sz k x).run P w.drew= .ok new w.drew:=hnew (w.drawn+1);have ho1:(Builtin.firstCells sz sLen (.slice base sLen sCap)).run P w.drew= .ok b8 w.drew:=hold (w.drawn+1);simp[Builtin.append_,run_underlying (bh he),aN hsz,run_underlying hu,hl,hnle,dc hi,hforced,Question.cut];rw[if_neg (by omega),if_neg (by omega)];simp[ho1,hn1,bS hzv,newRow,aY]
theorem cg{X:Cx}{id ar len cap sz b:Nat}(hE:X.E ar=some (.bQ b cap sz))(hl:len≤cap):bc X (.row id ar 0 len) (.slice (some (aY b)) len cap):=by
 have:=bc.row (X:=X) id ar 0 len cap sz b hE (by omega) (.inr rfl);rw[Nat.zero_mul,add_zero,Nat.sub_zero] at this;exact this
theorem k6{xs ys:List (List T)}{sz:Nat}(hx:∀(i:Nat) (r:List T),xs[i]? =some r→r.length=sz)(hy:∀(i:Nat) (r:List T),ys[i]? =some r→r.length=sz):
  ∀(i:Nat) (r:List T),(xs++ys)[i]? =some r→r.length=sz:=by
 intro i r h;rw[aF] at h;split at h
 ·exact hx i r h
 ·exact hy _ r h
theorem gl{xs:List (List T)}{sz k:Nat}(hx:∀(i:Nat) (r:List T),xs[i]? =some r→r.length=sz):∀(i:Nat) (r:List T),(xs.take k)[i]? =some r→r.length=sz:=by
 intro i r h;rw[aC] at h;split at h
 ·exact hx i r h
 ·cases h
theorem oR(R:Rel F Pr w0 lb N E n t o a w){nn:Nat}{n':Nat→Prop}(hn:Fr n nn n'){cf:au}{d sz bytes:Nat}{x y:O}{oper:Oper}{c:Call}(hop:oper.op= .call c)(hok:eA P F (.app sz bytes x y) c=true){v:V}{aK:List (Nat×Ob)}
  (h:act cf nn d t o (.app sz bytes x y)=some (v,aK)):dz P F Pr w0 lb N n' t o a w oper v aK:=by
 obtain⟨cal,as,ats⟩:=c;cases cal with
 |value=>simp[eA] at hok
 |invoke=>simp[eA] at hok
 |builtin b=>
  simp only[eA] at hok;obtain⟨x',y',ty,u,e,dd,rfl,h1,h2,hx,hy,he,hsz,hpos,hb,hu,hd,zv,hzv,hzs⟩:=kH hok;have h1:=lL h1;have h2:=lL h2;subst h1 h2;simp only[act] at h;split at h
  ·rename_i p q hp hq;split at h
   ·cases h
   ·rename_i ys hys;split at h
    ·rename_i hbytes;have hrx:=aG R hx hp;have hry:=aG R hy hq;obtain⟨cs,hyw,hyc,hyL,hcl,hlen,hnew⟩:=kV (P:=P) R hry hpos hys;have hexec:∀val w',(Builtin.append_ #[ty,u] oper.type #[a.eval x',a.eval y']).run P w= .ok val w'→(execOp a.eval oper).run P w= .ok (.value val) w':=by
      intro val w' hr;simp[execOp,hop,resolve,invoke,builtin,hr]
     have nilcase:∀id,a.eval x'= .slice none 0 0→ys.length≤4294967296→v= .c (.row id nn 0 ys.length)→∀ob:Ob,ob.ar=nn→ob.sz=sz→ob.bx=false→ob.rows=ys→aK=[(id,ob)]→dz P F Pr w0 lb N n' t o a w oper v aK:=by
      intro id hv hk hvv ob ho1 ho2 ho3 ho4 hup;subst hvv hup;have hgo:=iW (P:=P) (w:=w) (tyr:=oper.type) (base:=none) (sLen:=0) (sCap:=0) he hsz hu hd hb hzv hzs hbytes (by omega) hlen hnew (b8:= #[]) (by intro q;simp[Builtin.firstCells]) (by simp) (by simp[hcl]);rw[←hv] at hgo;by_cases hz:ys.length=0
      ·have hr:=hgo.1 (by omega) w rfl;have hy0:ys=[]:=List.eq_nil_of_length_eq_zero hz;obtain⟨R2,K⟩:=R.mr id nn n' ob ho1 hn (by rw[ho4,hy0]) ho3;refine⟨.slice none 0 0,w,_,.inl (hexec _ _ (by rw[hr];simp[hz])),R2,.c _ _ ?_⟩;rw[hz];exact .cI id nn (by simp[cx,E1])
      ·obtain⟨cap,rest,w',hcap,hrest,f1,f2,f3,f4,hr⟩:=hgo.2 (by omega);have hcss:(#[]++cs.toArray++rest).size=cap*ob.sz:=by
        simp only[Nat.zero_add] at hcap hrest;simp only[Array.empty_append,Array.size_append,List.size_toArray,hcl,hrest,ho2];rw[←Nat.add_mul];congr 1;omega
       obtain⟨R2,K⟩:=R.gA id nn n' ob ho1 hn cs (#[]++cs.toArray++rest) e (0,0) cap f1 f2 f3 f4 (by rw[ho4];omega) (by rw[ho4,ho2];exact hyw) (by rw[ho4];exact hyL) hcss (by simp)
        (by intro q v hq;simp only[Array.empty_append];rw[Array.getElem?_append_left (by simpa using(List.getElem?_eq_some_iff.1 hq).1)];simpa using hq) (by rw[ho4];exact fun _=>hyc)
       refine⟨.slice (some (aY w.heap.size)) (0+ys.length) cap,w',_,.inl (hexec _ _ hr),R2,.c _ _ ?_⟩;rw[Nat.zero_add];exact cg (sz:=ob.sz) (b:=w.heap.size) (by simp[cx,E1]) (by omega)
     split at h
     ·
      split at h
      ·rename_i hk;cases h;exact nilcase d (by generalize hv:a.eval x'=val at hrx ⊢;cases hrx;rfl) hk rfl _ rfl rfl rfl rfl rfl
      ·cases h
     ·rename_i id ar len;split at h
      ·rename_i ob hg;split at h
       ·rename_i hcd;obtain⟨hver,hw,hbx,hobs,hlr,hneed⟩:=hcd;cases h;generalize hv:a.eval x'=val at hrx;cases hrx with
        |cI _ _ hE=>
         have hrows:ob.rows=[]:=by
          obtain⟨_,l,hl,hr⟩:=R.cS id ob hg;have hE':E ar=some .nil:=hE;rw[hver,hE'] at hl;cases hl;exact hr.1
         exact nilcase id hv (by omega) (by simp) {ob with ar:=nn,rows:=ob.rows.take 0++ys} rfl hobs hbx (by simp) rfl
        |row _ _ _ _ cap sz' b hE hfit ho=>
         obtain⟨e1,_⟩:=bO R hg hver hE;subst e1;have hE2:E ob.ar=some (.bQ b cap ob.sz):=by rw[hver];exact hE
         obtain⟨_,hl0,hwid,hclo,cells,e',fr,m1,m2,m3,m4⟩:=bO R hg rfl hE2;have m1':w.heap[b]? =some (.cells cells e' fr):=m1;have hrT:bc (cx F Pr E o w) (.row id ar 0 len) (.slice (some ((aY b).add (0*ob.sz))) len (cap-0)):= .row id ar 0 len cap ob.sz b hE hfit ho;have hro:rowsOf o (.row id ar 0 len)=some (ob.rows.take len):=by simp[rowsOf,hg,hver,hbx,hlr]
         obtain⟨A,cc,olds,hAeq,how,hoc,hoL,hol,hold⟩:=dH (P:=P) R hrT hro (sz:=sz) (fun _=>by simp[eT,hg,hobs]) hpos;have htl:(ob.rows.take len).length=len:=by simp;omega
         rw[htl] at hol hold;have hgo:=iW (P:=P) (w:=w) (tyr:=oper.type) (base:=some ((aY b).add (0*ob.sz))) (sLen:=len) (sCap:=cap-0) he hsz hu hd hb hzv hzs hbytes hneed hlen hnew (b8:=olds.toArray) hold (by simp[hol]) (by simp[hcl]);rw[←hv] at hgo;have hwid2:∀(i:Nat) (r:List T),(ob.rows.take len++ys)[i]? =some r→r.length=ob.sz:=k6 (gl hwid) (by rw[hobs];exact hyw);have hcl3:∀(i j:Nat) (r:List T) (t:T),(ob.rows.take len++ys)[i]? =some r→r[j]? =some t→aH t:=by
          intro i j r t hr ht;rw[aF] at hr;split at hr
          ·exact hoc i j r t hr ht
          ·exact hyc _ j r t hr ht
         by_cases hroom:len+ys.length≤cap-0
         ·have hfit2:len*ob.sz+cs.length≤cap*ob.sz:=by
           rw[hcl,←hobs,←Nat.add_mul];exact aE _ (by omega)
          obtain⟨w',cs',g1,_⟩:=bf (P:=P) cs 0 (len*ob.sz) cells w m1' (by rw[m2];omega) m3 hyL.one;have hst:(storeCells (((aY b).add (0*ob.sz)).add (len*sz)) cs.toArray.toList).run P w= .ok () w':=by
           rw[add_add,Nat.zero_mul,Nat.zero_add,←hobs];exact g1
          have hr:=hgo.1 hroom w' hst;have H2:∀(i j:Nat) (r:List T) (t:T),(ob.rows.take len++ys)[i]? =some r→r[j]? =some t→
            (len*ob.sz≤i*ob.sz+j∧i*ob.sz+j<len*ob.sz+cs.length∧∀v,cs[i*ob.sz+j-len*ob.sz]? =some v→bc (cx F Pr E o w) t v)∨
            ((i*ob.sz+j<len*ob.sz∨len*ob.sz+cs.length≤i*ob.sz+j)∧∃r0,ob.rows[i]? =some r0∧r0[j]? =some t):=by
           intro i j r t hr ht;have hj:j<ob.sz:=by rw[←hwid2 i r hr];exact(List.getElem?_eq_some_iff.1 ht).1
           rw[aF,htl] at hr;split at hr
           ·rename_i hil;rw[aC,if_pos hil] at hr;exact .inr ⟨.inl (bH hil hj),r,hr,ht⟩
           ·rename_i hil;have hik:i-len<ys.length:=(List.getElem?_eq_some_iff.1 hr).1;refine .inl ⟨?_, ?_,fun v hvv=> ?_⟩
            ·have:=aE ob.sz (Nat.le_of_not_lt hil);omega
            ·rw[hcl,←hobs,←Nat.add_mul];exact bH (by omega) hj
            ·have hf:=cU hyw hr ht;refine hyL.2 _ t v hf ?_;rw[←hvv,←hobs];congr 1;obtain⟨k,rfl⟩:∃k,i=len+k:=⟨i-len,by omega⟩
             rw[Nat.add_mul];simp;omega
          obtain⟨R2,K⟩:=R.over (n':=n') (E':=E1 E nn (.bQ b cap ob.sz)) (ob':={ob with ar:=nn,rows:=ob.rows.take len++ys}) hg hw hE2 rfl (by simp;omega) hwid2 (fun _=>hcl3) hfit2 hyL.one H2 g1 hn.b8 (iY R.fresh (hn.new _ (Nat.le_refl _) (by omega))) (gW R.fresh hn.b8 (hn.add _ (Nat.le_refl _) (by omega))) (by simp[E1]);refine⟨.slice (some ((aY b).add (0*ob.sz))) (len+ys.length) (cap-0),w',_,.inl (hexec _ _ hr),R2,.c _ _ ?_⟩;rw[Nat.zero_mul,add_zero,Nat.sub_zero];exact cg (sz:=ob.sz) (b:=b) (by simp[cx,E1]) (by omega)
         ·obtain⟨ncap,rest,w',hcap,hrest,f1,f2,f3,f4,hr⟩:=hgo.2 (by omega);have hcss:(olds.toArray++cs.toArray++rest).size=ncap*ob.sz:=by
           simp only[Array.size_append,List.size_toArray,hol,hcl,hrest,hobs];rw[←Nat.add_mul,←Nat.add_mul];congr 1;omega
          obtain⟨R2,K⟩:=R.gA id nn n' {ob with ar:=nn,rows:=ob.rows.take len++ys} rfl hn (olds++cs) (olds.toArray++cs.toArray++rest) e (0,0) ncap f1 f2 f3 f4 (by simp;omega) hwid2
           (by simp only[List.flatten_append];exact hoL.append hyL) hcss (by simp)
           (by intro q v hq;rw[show olds.toArray++cs.toArray=(olds++cs).toArray from by simp,Array.getElem?_append_left (by simpa using(List.getElem?_eq_some_iff.1 hq).1)];simpa using hq) (fun _=>hcl3)
          refine⟨.slice (some (aY w.heap.size)) (len+ys.length) ncap,w',_,.inl (hexec _ _ hr),R2,.c _ _ ?_⟩;exact cg (sz:=ob.sz) (b:=w.heap.size) (by simp[cx,E1]) (by omega)
       ·cases h
      ·cases h
     ·cases h
    ·cases h
  ·cases h
theorem nv(R:Rel F Pr w0 lb N E n t o a w){nn:Nat}{n':Nat→Prop}(hn:Fr n nn n'){cf:au}{d sz bytes:Nat}{x y:O}{oper:Oper}{c:Call}(hop:oper.op= .call c)(hok:eA P F (.jI sz bytes x y) c=true){v:V}{aK:List (Nat×Ob)}
  (h:act cf nn d t o (.jI sz bytes x y)=some (v,aK)):dz P F Pr w0 lb N n' t o a w oper v aK:=by
 obtain⟨cal,as,ats⟩:=c;cases cal with
 |value=>simp[eA] at hok
 |invoke=>simp[eA] at hok
 |builtin b=>
  simp only[eA] at hok;rw[mn] at hok;obtain⟨x',y',ty,u,e,dd,rfl,h1,h2,hx,hy,he,hsz,hpos,hb,hu,hd,zv,hzv,hzs⟩:=kH hok;have h1:=lL h1;have h2:=lL h2;subst h1 h2;simp only[act] at h;split at h
  ·rename_i id ar len q hp hq;split at h
   ·rename_i ys ob hys hg;split at h
    ·rename_i hcd;obtain⟨hbytes,hver,hw,hbx,hobs,hfits,hneed⟩:=hcd;cases h;have hrx:=aG R hx hp;have hry:=aG R hy hq;obtain⟨cs,hyw,hyc,hyL,hcl,hlen,hnew⟩:=kV (P:=P) R hry hpos hys;have hexec:∀val w',(Builtin.append_ #[ty,u] oper.type #[a.eval x',a.eval y']).run P w= .ok val w'→(execOp a.eval oper).run P w= .ok (.value val) w':=by
      intro val w' hr;simp[execOp,hop,resolve,invoke,builtin,hr]
     generalize hv:a.eval x'=val at hrx;cases hrx with
     |cI _ _ hE=>
      have hrows:ob.rows=[]:=by
       obtain⟨_,l,hl,hr⟩:=R.cS id ob hg;have hE':E ar=some .nil:=hE;rw[hver,hE'] at hl;cases hl;exact hr.1
      have hy0:ys=[]:=by rw[hrows] at hfits;simpa using hfits
      have hgo:=iW (P:=P) (w:=w) (tyr:=oper.type) (base:=none) (sLen:=0) (sCap:=0) he hsz hu hd hb hzv hzs hbytes (by omega) hlen hnew (b8:= #[]) (by intro q;simp[Builtin.firstCells]) (by simp) (by simp[hcl]);rw[←hv] at hgo;have hr:=hgo.1 (by simp[hy0]) w rfl;have hE3:E ob.ar=some .nil:=by rw[hver];exact hE
      obtain⟨R2,K⟩:=R.pA (n':=n') (id:=id) (ob':={ob with rows:=ob.rows.take 0++ys++ob.rows.drop (0+ys.length)}) rfl rfl rfl (Nat.le_refl _) hn.b8 (fun _ _ h=>h) (fun v l h=>hn.b8 _ (R.fresh v l h)) (fun b hb _=>rfl) (l':= .nil) hE3 (fun b cap sz h=>by cases h) (fun K=>⟨by simp[hrows,hy0],hbx⟩);refine⟨.slice none 0 0,w,_,.inl (hexec _ _ (by rw[hr];simp[hy0])),R2,.c _ _ ?_⟩;simp only[hy0,a6,Nat.add_zero];exact .cI id ar hE
     |row _ _ _ _ cap sz' b hE hfit ho=>
      obtain⟨e1,_⟩:=bO R hg hver hE;subst e1;have hE2:E ob.ar=some (.bQ b cap ob.sz):=by rw[hver];exact hE
      obtain⟨_,hl0,hwid,hclo,cells,e',fr,m1,m2,m3,m4⟩:=bO R hg rfl hE2;have m1':w.heap[b]? =some (.cells cells e' fr):=m1;have hlr:len≤ob.rows.length:=by omega
      have hrT:bc (cx F Pr E o w) (.row id ar 0 len) (.slice (some ((aY b).add (0*ob.sz))) len (cap-0)):= .row id ar 0 len cap ob.sz b hE hfit ho;have hro:rowsOf o (.row id ar 0 len)=some (ob.rows.take len):=by simp[rowsOf,hg,hver,hbx,hlr]
      obtain⟨A,cc,olds,hAeq,how,hoc,hoL,hol,hold⟩:=dH (P:=P) R hrT hro (sz:=sz) (fun _=>by simp[eT,hg,hobs]) hpos;have htl:(ob.rows.take len).length=len:=by simp;omega
      rw[htl] at hol hold;have hgo:=iW (P:=P) (w:=w) (tyr:=oper.type) (base:=some ((aY b).add (0*ob.sz))) (sLen:=len) (sCap:=cap-0) he hsz hu hd hb hzv hzs hbytes hneed hlen hnew (b8:=olds.toArray) hold (by simp[hol]) (by simp[hcl]);rw[←hv] at hgo;have hal:(ob.rows.take len++ys).length=len+ys.length:=by simp;omega
      have at3:∀(i:Nat) (r:List T),(ob.rows.take len++ys++ob.rows.drop (len+ys.length))[i]? =some r→(i<len∧ob.rows[i]? =some r)∨(len≤i∧i<len+ys.length∧ys[i-len]? =some r)∨(len+ys.length≤i∧ob.rows[i]? =some r):=by
       intro i r hr;rw[aF,hal] at hr;split at hr
       ·rename_i hi;rw[aF,htl] at hr;split at hr
        ·rename_i hil;rw[aC,if_pos hil] at hr;exact .inl ⟨hil,hr⟩
        ·rename_i hil;exact .inr (.inl ⟨by omega,hi,hr⟩)
       ·rename_i hi;rw[aL,show len+ys.length+(i-(len+ys.length))=i by omega] at hr;exact .inr (.inr ⟨by omega,hr⟩)
      have hwid2:∀(i:Nat) (r:List T),(ob.rows.take len++ys++ob.rows.drop (len+ys.length))[i]? =some r→r.length=ob.sz:=by
       intro i r hr;rcases at3 i r hr with⟨_,q⟩|⟨_,_,q⟩|⟨_,q⟩
       ·exact hwid i r q
       ·rw[hobs];exact hyw _ r q
       ·exact hwid i r q
      have hcl3:∀(i j:Nat) (r:List T) (t:T),(ob.rows.take len++ys++ob.rows.drop (len+ys.length))[i]? =some r→r[j]? =some t→aH t:=by
       intro i j r t hr ht;rcases at3 i r hr with⟨_,q⟩|⟨_,_,q⟩|⟨_,q⟩
       ·exact hclo hbx i j r t q ht
       ·exact hyc _ j r t q ht
       ·exact hclo hbx i j r t q ht
      have hroom:len+ys.length≤cap-0:=by omega
      have hfit2:len*ob.sz+cs.length≤cap*ob.sz:=by
       rw[hcl,←hobs,←Nat.add_mul];exact aE _ (by omega)
      obtain⟨w',cs',g1,_⟩:=bf (P:=P) cs 0 (len*ob.sz) cells w m1' (by rw[m2];omega) m3 hyL.one;have hst:(storeCells (((aY b).add (0*ob.sz)).add (len*sz)) cs.toArray.toList).run P w= .ok () w':=by
       rw[add_add,Nat.zero_mul,Nat.zero_add,←hobs];exact g1
      have hr:=hgo.1 hroom w' hst;have H2:∀(i j:Nat) (r:List T) (t:T),(ob.rows.take len++ys++ob.rows.drop (len+ys.length))[i]? =some r→r[j]? =some t→
        (len*ob.sz≤i*ob.sz+j∧i*ob.sz+j<len*ob.sz+cs.length∧∀v,cs[i*ob.sz+j-len*ob.sz]? =some v→bc (cx F Pr E o w) t v)∨
        ((i*ob.sz+j<len*ob.sz∨len*ob.sz+cs.length≤i*ob.sz+j)∧∃r0,ob.rows[i]? =some r0∧r0[j]? =some t):=by
       intro i j r t hr ht;have hj:j<ob.sz:=by rw[←hwid2 i r hr];exact(List.getElem?_eq_some_iff.1 ht).1
       rcases at3 i r hr with⟨hil,q⟩|⟨hil,hik,q⟩|⟨hik,q⟩
       ·exact .inr ⟨.inl (bH hil hj),r,q,ht⟩
       ·refine .inl ⟨?_, ?_,fun v hvv=> ?_⟩
        ·have:=aE ob.sz hil;omega
        ·rw[hcl,←hobs,←Nat.add_mul];exact bH (by omega) hj
        ·have hf:=cU hyw q ht;refine hyL.2 _ t v hf ?_;rw[←hvv,←hobs];congr 1;obtain⟨k,rfl⟩:∃k,i=len+k:=⟨i-len,by omega⟩
         rw[Nat.add_mul];simp;omega
       ·refine .inr ⟨.inr ?_,r,q,ht⟩;rw[hcl,←hobs,←Nat.add_mul];have:=aE ob.sz hik;omega
      obtain⟨R2,K⟩:=R.over (n':=n') (E':=E) (ob':={ob with rows:=ob.rows.take len++ys++ob.rows.drop (len+ys.length)}) hg hw hE2 rfl (by simp;omega) hwid2 (fun _=>hcl3) hfit2 hyL.one H2 g1 hn.b8 (fun _ _ h=>h) (fun v l h=>hn.b8 _ (R.fresh v l h)) hE2;refine⟨.slice (some ((aY b).add (0*ob.sz))) (len+ys.length) (cap-0),w',_,.inl (hexec _ _ hr),R2,.c _ _ ?_⟩;rw[Nat.zero_mul,add_zero,Nat.sub_zero];exact cg (sz:=ob.sz) (b:=b) hE (by omega)
    ·cases h
   ·cases h
  ·cases h
theorem jx:∀(vs:List Value) (k off:Nat) (cells:Array Value),off+k+vs.length≤cells.size→
  ((vs.zipIdx k).foldl (fun (cs:Array Value) (p:Value×Nat)=>cs.setIfInBounds (off+p.2) p.1) cells).size=cells.size∧
  ∀q,((vs.zipIdx k).foldl (fun (cs:Array Value) (p:Value×Nat)=>cs.setIfInBounds (off+p.2) p.1) cells)[q]? =if off+k≤q∧q<off+k+vs.length then vs[q-(off+k)]? else cells[q]?
 |[],k,off,cells,h=>by
  refine⟨rfl,fun q=> ?_⟩;rw[if_neg (by simp)];rfl
 |v::vs,k,off,cells,h=>by
  simp only[al] at h;obtain⟨h1,h2⟩:=jx vs (k+1) off (cells.setIfInBounds (off+k) v) (by simp;omega);simp only[List.zipIdx_cons,gj];refine⟨by rw[h1];simp,fun q=> ?_⟩;rw[h2 q,Array.getElem?_setIfInBounds];by_cases r:off+(k+1)≤q∧q<off+(k+1)+vs.length
  ·rw[if_pos r,if_pos ⟨by omega,by simp only[al];omega⟩];obtain⟨p,rfl⟩:∃p,q=off+k+(p+1):=⟨q-(off+k)-1,by omega⟩
   rw[show off+k+(p+1)-(off+k)=p+1 from by omega,show off+k+(p+1)-(off+(k+1))=p from by omega];simp
  ·rw[if_neg r];by_cases e:off+k=q
   ·subst e;rw[if_pos rfl,if_pos (by omega),if_pos ⟨Nat.le_refl _,by simp⟩];simp
   ·rw[if_neg e,if_neg (by simp only[al];omega)]
theorem ie(place:Nat→Option (Nat×Nat))(cells:Array Value)(i:Nat)(v:Value)(rest:List (Nat×Value)){off size:Nat}(hp:place i=some (off,size))(hs:v.cells.size=size)(hf:off+size≤cells.size):
  ∃cells':Array Value,Instr.fill place cells ((i,v)::rest)=Instr.fill place cells' rest∧cells'.size=cells.size∧∀q,cells'[q]? =if off≤q∧q<off+size then v.cells[q-off]? else cells[q]? :=by
 obtain⟨h1,h2⟩:=jx v.cells.toList 0 off cells (by simp[hs];omega);simp only[Nat.add_zero,Array.length_toList,hs] at h1 h2;refine⟨_, ?_,h1,fun q=>by rw[h2 q];simp⟩;simp only[Instr.fill,hp,hs];rw[if_neg (by simp;omega)];congr 1;rw[←Array.foldl_toList,Array.toList_zipIdx]
theorem mg{X:Cx}{r xs:List T}{off:Nat}{cells cells' vs:Array Value}(h:aP X r cells.toList)(hx:aP X xs vs.toList)(hf:off+xs.length≤r.length)(hs:cells'.size=cells.size)
  (hc:∀q,cells'[q]? =if off≤q∧q<off+xs.length then vs[q-off]? else cells[q]?):aP X (setAt r off xs) cells'.toList:=by
 refine⟨by rw[dG hf,h.1];simp[hs],fun q t v ht hv=> ?_⟩;rw[fo hf] at ht;simp only[Array.getElem?_toList] at hv;rw[hc] at hv;split at ht
 ·rename_i hq;rw[if_pos hq] at hv;exact hx.2 _ t v ht (by simpa using hv)
 ·rename_i hq;rw[if_neg hq] at hv;exact h.2 _ t v ht (by simpa using hv)
theorem gL(R:Rel F Pr w0 lb N E n t o a w){places:List (Nat×Nat)}:∀{parts:List (Nat×Nat×O)} {qs:List (Nat×Operand)} {ps:List (Nat×List T)} {zero:List T} {cells:Array Value},eg F places parts qs=true→
  (∀(p:Nat×List T),p∈ps→True)→
  aS (fun (p:Nat×Nat×O)=>match dq t p.2.2 with|some cs=>if cs.length=p.2.1∧p.1+p.2.1≤zero.length then some (p.1,cs) else none|none=>none) parts=some ps→
  aP (cx F Pr E o w) zero cells.toList→∃cells',Instr.fill (places.toArray[·]?) cells (qs.map fun q=>(q.1,a.eval q.2))=some cells'∧aP (cx F Pr E o w) (iE ps zero) cells'.toList
 |[],[],ps,zero,cells,_,_,h,hr=>by simp[aS] at h;subst h;exact⟨cells,rfl,hr⟩
 |(off,size,x)::parts,(i,y)::qs,ps,zero,cells,hok,_,h,hr=>by
  simp only[eg,ae,beq_iff_eq] at hok;obtain⟨⟨hpl,hx⟩,hrest⟩:=hok;simp only[aS] at h;split at h
  ·rename_i p ps' hp hps;cases h;split at hp
   ·rename_i cs hcs;split at hp
    ·rename_i hcd;cases hp;have hrep:=cN R hx hcs;have hlen:=hrep.1;have hzl:zero.length=cells.size:=by have:=hr.1;simpa using this
     obtain⟨cells',g1,g2,g3⟩:=ie (places.toArray[·]?) cells i (a.eval y) (qs.map fun q=>(q.1,a.eval q.2)) (off:=off) (size:=size) (by simpa using hpl) (by simp at hlen;omega) (by omega);have hr2:aP (cx F Pr E o w) (setAt zero off cs) cells'.toList:=mg hr hrep (by omega) g2 (by intro q;rw[g3 q,hcd.1]);have hl2:(setAt zero off cs).length=zero.length:=dG (by omega);obtain⟨c2,k1,k2⟩:=gL R (zero:=setAt zero off cs) hrest (fun _ _=>trivial) (by rw[hl2];exact hps) hr2;exact⟨c2,by simp only[aI];rw[g1];exact k1,k2⟩
    ·cases hp
   ·cases hp
  ·cases h
 |[],_::_,_,_,_,hok,_,_,_=>by simp[eg] at hok
 |_::_,[],_,_,_,hok,_,_,_=>by simp[eg] at hok
theorem lQ(R:Rel F Pr w0 lb N E n t o a w){nn:Nat}{n':Nat→Prop}(hn:Fr n nn n'){cf:au}{d:Nat}{zero:List T}{parts:List (Nat×Nat×O)}{oper:Oper}(hok:aM P F (.build zero parts) oper.op=true){v:V}{aK:List (Nat×Ob)}
  (h:act cf nn d t o (.build zero parts)=some (v,aK)):dz P F Pr w0 lb N n' t o a w oper v aK:=by
 cases hop:oper.op with
 |build ty qs=>
  rw[hop] at hok;simp only[aM] at hok;split at hok
  ·rename_i fs hfs;split at hok
   ·rename_i places hpl;simp only[ae] at hok;obtain⟨hz,hps⟩:=hok;obtain⟨zv,hzv,hzr,hsz,hzc⟩:=cP (P:=P) (X:=cx F Pr E o w) hz;simp only[act,aa,ah] at h;obtain⟨ps,hmp,rfl,rfl⟩:=h;obtain⟨cells',k1,k2⟩:=gL R hps (fun _ _=>trivial) hmp hzr;have hb:P.built ty (qs.map fun q=>(q.1,a.eval q.2)).toList=some cells':=by
     unfold Program.built;obtain⟨it,hit,hitz⟩:∃it,P.info? ty=some it∧it.zero=some zv:=by
      unfold dU at hzv;cases hi:P.info? ty with
      |none=>simp[hi] at hzv
      |some i=>exact⟨i,rfl,by simpa [hi] using hzv⟩
     have hpl':fs.toList.mapM (fun f=>(P.info? f.type).map fun i=>(f.offset,i.size))=some places:=hpl;simp only[hit,dg hfs,hitz,hpl'];simpa using k1
    have hrun:=run_build (P:=P) w ty (qs.map fun q=>(q.1,a.eval q.2)) cells' hb;refine az R hn.b8 (val:= .agg cells') ?_ ?_
    ·simp only[execOp,hop,Sem.run_bind,hrun];rfl
    ·have:=bm.po k2;simpa using this
   ·cases hok
  ·cases hok
 |_=>rw[hop] at hok;simp[aM] at hok
theorem oD(R:Rel F Pr w0 lb N E n t o a w){nn:Nat}{n':Nat→Prop}(hn:Fr n nn n'){cf:au}{d sz bytes:Nat}{zero:List T}{x:O}{oper:Oper}(hok:aM P F (.pq sz bytes zero x) oper.op=true){v:V}{aK:List (Nat×Ob)}
  (h:act cf nn d t o (.pq sz bytes zero x)=some (v,aK)):dz P F Pr w0 lb N n' t o a w oper v aK:=by
 cases hop:oper.op with
 |makeSlice ty l c=>
  rw[hop] at hok;simp only[aM] at hok;split at hok
  ·rename_i e he;simp only[ae,beq_iff_eq,decide_eq_true_eq] at hok;obtain⟨⟨⟨⟨⟨hsz,hpos⟩,hb⟩,hz⟩,hl⟩,hc⟩:=hok;obtain⟨zv,hzv,hzr,hzs,hzc⟩:=cP (P:=P) (X:=cx F Pr E o w) hz;simp only[act] at h;split at h
   ·rename_i m hm;split at h
    ·rename_i hcd;cases h;obtain⟨k1,hk1⟩:=cd R hl hm;obtain⟨k2,hk2⟩:=cd R hc hm;obtain⟨it,hit,hitz,hits,hitb⟩:∃it,P.info? e=some it∧it.zero=some zv∧it.size=sz∧it.bytes=bytes:=by
      unfold dU at hzv;unfold bw at hsz;unfold dB at hb;cases hi:P.info? e with
      |none=>simp[hi] at hzv
      |some i=>simp[hi] at hzv hsz hb;exact⟨i,rfl,hzv,hsz,hb⟩
     have hzl:zero.length=sz:=by rw[hsz] at hzs;exact(Option.some.inj hzs).symm
     have hcs:zv.cells.size=sz:=by have:=hzr.1;simp at this;omega
     have hrun:=run_make (P:=P) w ty e it zv (bh he) hit hitz k1 k2 (m:Int) (m:Int) (by omega) (Int.le_refl _) (by rw[hitb,←Int.natCast_mul];omega) (by omega);simp only[cV,hits] at hrun;have hfl:=bD hzr (by omega) m;have hL:aP (cx F Pr E o w) (List.replicate m zero).flatten (Builtin.zeroCells zv.cells m).toList:=by rw[hfl];exact hzr.replicate m
     obtain⟨R2,K⟩:=R.gA d nn n' {ar:=nn,sz:=sz,w:=true,bx:=false,rows:=List.replicate m zero} rfl hn (Builtin.zeroCells zv.cells m).toList (Builtin.zeroCells zv.cells m) e (0,0) m (w':=w.alloc (.cells (Builtin.zeroCells zv.cells m) e)) rfl rfl rfl rfl
      (by simp) (by intro i r hr;rw[cb i r hr,hzl]) hL (by simp[Builtin.zeroCells,hcs]) (by simp) (by intro q v hq;simpa using hq) (fun _=>cR hzc)
     refine⟨.slice (some (aY w.heap.size)) m m,_,_,.inl ?_,R2,.c _ _ (cg (sz:=sz) (b:=w.heap.size) (by simp[cx,E1]) (Nat.le_refl _))⟩;have e2:madeCells zv.cells (m*sz)=Builtin.zeroCells zv.cells m:=by rw[←hcs];rfl
     rw[e2] at hrun;simp only[execOp,hop,hk1,hk2,Sem.run_bind,hrun];rfl
    ·cases h
   ·cases h
  ·cases hok
 |_=>rw[hop] at hok;simp[aM] at hok
theorem oE(R:Rel F Pr w0 lb N E n t o a w){nn:Nat}{n':Nat→Prop}(hn:Fr n nn n'){cf:au}{d sz bytes:Nat}{zero:List T}{x y:O}{oper:Oper}(hok:aM P F (.pt sz bytes zero x y) oper.op=true){v:V}{aK:List (Nat×Ob)}
  (h:act cf nn d t o (.pt sz bytes zero x y)=some (v,aK)):dz P F Pr w0 lb N n' t o a w oper v aK:=by
 cases hop:oper.op with
 |makeSlice ty l c=>
  rw[hop] at hok;simp only[aM] at hok;split at hok
  ·rename_i e he;simp only[ae,beq_iff_eq,decide_eq_true_eq] at hok;obtain⟨⟨⟨⟨⟨hsz,hpos⟩,hb⟩,hz⟩,hl⟩,hc⟩:=hok;obtain⟨zv,hzv,hzr,hzs,hzc⟩:=cP (P:=P) (X:=cx F Pr E o w) hz;simp only[act] at h;split at h
   ·rename_i m c' hm hm';split at h
    ·rename_i hcd;cases h;obtain⟨k1,hk1⟩:=cd R hl hm;obtain⟨k2,hk2⟩:=cd R hc hm';obtain⟨it,hit,hitz,hits,hitb⟩:∃it,P.info? e=some it∧it.zero=some zv∧it.size=sz∧it.bytes=bytes:=by
      unfold dU at hzv;unfold bw at hsz;unfold dB at hb;cases hi:P.info? e with
      |none=>simp[hi] at hzv
      |some i=>simp[hi] at hzv hsz hb;exact⟨i,rfl,hzv,hsz,hb⟩
     have hzl:zero.length=sz:=by rw[hsz] at hzs;exact(Option.some.inj hzs).symm
     have hcs:zv.cells.size=sz:=by have:=hzr.1;simp at this;omega
     have hrun:=run_make (P:=P) w ty e it zv (bh he) hit hitz k1 k2 (m:Int) (c':Int) (by omega) (by omega) (by rw[hitb,←Int.natCast_mul];omega) (by omega);simp only[cV,hits] at hrun;have hfl:=bD hzr (by omega) m;have hL:aP (cx F Pr E o w) (List.replicate m zero).flatten (Builtin.zeroCells zv.cells m).toList:=by rw[hfl];exact hzr.replicate m
     have hpf:∀(q:Nat) (v:Value),(Builtin.zeroCells zv.cells m).toList[q]? =some v→(Builtin.zeroCells zv.cells c')[q]? =some v:=by
      intro q v hq;rw[hfl] at hq;have hfc:=bD hzr (by omega) c';have e3:List.replicate c' zv.cells.toList=List.replicate m zv.cells.toList++List.replicate (c'-m) zv.cells.toList:=by
       rw[List.replicate_append_replicate,show m+(c'-m)=c' from by omega]
      rw[←Array.getElem?_toList,hfc,e3,List.flatten_append];have hq':q<(List.replicate m zv.cells.toList).flatten.length:=by
       rcases Nat.lt_or_ge q (List.replicate m zv.cells.toList).flatten.length with z|z
       ·exact z
       ·rw[bG z] at hq;cases hq
      rw[List.getElem?_append_left hq'];exact hq
     obtain⟨R2,K⟩:=R.gA d nn n' {ar:=nn,sz:=sz,w:=true,bx:=false,rows:=List.replicate m zero} rfl hn (Builtin.zeroCells zv.cells m).toList (Builtin.zeroCells zv.cells c') e (0,0) c' (w':=w.alloc (.cells (Builtin.zeroCells zv.cells c') e)) rfl rfl rfl rfl
      (by simp;omega) (by intro i r hr;rw[cb i r hr,hzl]) hL (by simp[Builtin.zeroCells,hcs]) (by simp) hpf (fun _=>cR hzc)
     refine⟨.slice (some (aY w.heap.size)) m c',_,_,.inl ?_,R2,.c _ _ (cg (sz:=sz) (b:=w.heap.size) (by simp[cx,E1]) hcd.1)⟩;have e2:madeCells zv.cells (c'*sz)=Builtin.zeroCells zv.cells c':=by rw[←hcs];rfl
     rw[e2] at hrun;simp only[execOp,hop,hk1,hk2,Sem.run_bind,hrun];rfl
    ·cases h
   ·cases h
  ·cases hok
 |_=>rw[hop] at hok;simp[aM] at hok
theorem mh{X:Cx}{rows:List (List T)}{sz i:Nat}{r:List T}{cells cells' vs:Array Value}(hw:∀(i:Nat) (r:List T),rows[i]? =some r→r.length=sz)(hp:0<sz)(h:aP X rows.flatten cells.toList)
  (hx:aP X r vs.toList) (hr:r.length=sz) (hi:i<rows.length) (hs:cells'.size=cells.size) (hc:∀q,cells'[q]? =if i*sz≤q∧q<i*sz+sz then vs[q-i*sz]? else cells[q]?):
  aP X (rows.set i r).flatten cells'.toList∧∀(k:Nat) (r':List T),(rows.set i r)[k]? =some r'→r'.length=sz:=by
 have hw2:∀(k:Nat) (r':List T),(rows.set i r)[k]? =some r'→r'.length=sz:=by
  intro k r' hk;rw[List.getElem?_set] at hk;split at hk
  ·cases hk;exact hr
  ·exact hw k r' hk
 refine⟨⟨?_,fun q t v ht hv=> ?_⟩,hw2⟩
 ·have h1:=bX hw2;have h2:=h.1;rw[bX hw] at h2;rw[h1];simp at h2 ⊢;omega
 ·have hq:q<(rows.set i r).length*sz:=by rw[←bX hw2];exact(List.getElem?_eq_some_iff.1 ht).1
  obtain⟨k,j,r',t',rfl,h1,h2,h3⟩:=eK hw2 hp hq;rw[ht] at h3;cases h3;simp only[Array.getElem?_toList] at hv;rw[hc] at hv;have hj:j<sz:=by rw[←hw2 k r' h1];exact(List.getElem?_eq_some_iff.1 h2).1
  rw[List.getElem?_set] at h1;split at h1
  ·rename_i e;subst e;cases h1;rw[if_pos (by omega),show i*sz+j-i*sz=j from by omega] at hv;exact hx.2 j t v h2 (by simpa using hv)
  ·rename_i e;have:¬(i*sz≤k*sz+j∧k*sz+j<i*sz+sz):=by
    rcases Nat.lt_or_gt_of_ne e with q|q
    ·have:=aE sz (show i+1≤k from q);rw[Nat.add_mul,Nat.one_mul] at this;omega
    ·have:=bH q hj;omega
   rw[if_neg this] at hv;exact h.2 _ t v (cU hw h1 h2) (by simpa using hv)
theorem eL(R:Rel F Pr w0 lb N E n t o a w){sz len:Nat}(hp:0<sz):∀{parts:List (Nat×O)} {qs:List (Nat×Operand)} {ps:List (Nat×List T)} {rows:List (List T)} {cells:Array Value},dJ F parts qs=true→
  aS (fun (p:Nat×O)=>match dq t p.2 with|some cs=>if cs.length=sz∧p.1<len then(aS (cl o) cs).map fun cs=>(p.1,cs) else none|none=>none) parts=some ps→
  rows.length=len→(∀(i:Nat) (r:List T),rows[i]? =some r→r.length=sz)→
  (∀(i j:Nat) (r:List T) (t:T),rows[i]? =some r→r[j]? =some t→aH t)→
  aP (cx F Pr E o w) rows.flatten cells.toList→∃cells',Instr.fill (fun i=>some (i*sz,sz)) cells (qs.map fun q=>(q.1,a.eval q.2))=some cells'∧
   aP (cx F Pr E o w) (ps.foldl (fun rs p=>rs.set p.1 p.2) rows).flatten cells'.toList∧(∀(i:Nat) (r:List T),(ps.foldl (fun rs p=>rs.set p.1 p.2) rows)[i]? =some r→r.length=sz)∧
   (ps.foldl (fun rs p=>rs.set p.1 p.2) rows).length=len∧cells'.size=cells.size∧
   (∀(i j:Nat) (r:List T) (t:T),(ps.foldl (fun rs p=>rs.set p.1 p.2) rows)[i]? =some r→r[j]? =some t→aH t)
 |[],[],ps,rows,cells,_,h,hl,hw,hc,hr=>by simp[aS] at h;subst h;exact⟨cells,rfl,hr,hw,hl,rfl,hc⟩
 |(i,x)::parts,(j,y)::qs,ps,rows,cells,hok,h,hl,hw,hc,hr=>by
  simp only[dJ,ae,beq_iff_eq] at hok;obtain⟨⟨rfl,hx⟩,hrest⟩:=hok;simp only[aS] at h;split at h
  ·rename_i p ps' hpp hps;cases h;split at hpp
   ·rename_i cs hcs;split at hpp
    ·rename_i hcd;simp only[aa] at hpp;obtain⟨cs',hcl,rfl⟩:=hpp;have hrep:=iV R hcl (cN R hx hcs);have hclo:=eN R hcl (cN R hx hcs);have hlen:=hrep.1;have hlen0:=(cN R hx hcs).1;have hcl2:cs'.length=sz:=by omega
     have hcells:cells.size=len*sz:=by have:=hr.1;rw[bX hw,hl] at this;simpa using this.symm
     have hfit:i*sz+sz≤cells.size:=by
      rw[hcells];have:=aE sz (show i+1≤len from hcd.2);rw[Nat.add_mul,Nat.one_mul] at this;exact this
     obtain⟨cells',g1,g2,g3⟩:=ie (fun i=>some (i*sz,sz)) cells i (a.eval y) (qs.map fun q=>(q.1,a.eval q.2)) rfl (by simp at hlen;omega) hfit;obtain⟨k1,k2⟩:=mh hw hp hr hrep hcl2 (by omega) g2 g3;have k3:∀(k j:Nat) (r:List T) (t:T),(rows.set i cs')[k]? =some r→r[j]? =some t→aH t:=by
      intro k j r t hr ht;rw[List.getElem?_set] at hr;split at hr
      ·split at hr
       ·cases hr;exact hclo j t ht
       ·cases hr
      ·exact hc k j r t hr ht
     obtain⟨c2,m1,m2,m3,m4,m5,m6⟩:=eL R hp hrest hps (by simpa using hl) k2 k3 k1;refine⟨c2, ?_,m2,m3,m4,by rw[m5,g2],m6⟩;simp only[aI];rw[g1];exact m1
    ·cases hpp
   ·cases hpp
  ·cases h
 |[],_::_,_,_,_,hok,_,_,_,_,_=>by simp[dJ] at hok
 |_::_,[],_,_,_,hok,_,_,_,_,_=>by simp[dJ] at hok
theorem kq(R:Rel F Pr w0 lb N E n t o a w){nn:Nat}{n':Nat→Prop}(hn:Fr n nn n'){cf:au}{d sz len:Nat}{zero:List T}{parts:List (Nat×O)}{oper:Oper}(hok:aM P F (.cm sz len zero parts) oper.op=true){v:V}{aK:List (Nat×Ob)}
  (h:act cf nn d t o (.cm sz len zero parts)=some (v,aK)):dz P F Pr w0 lb N n' t o a w oper v aK:=by
 cases hop:oper.op with
 |buildSlice ty len' qs=>
  rw[hop] at hok;simp only[aM] at hok;split at hok
  ·rename_i e he;simp only[ae,beq_iff_eq,decide_eq_true_eq] at hok;obtain⟨⟨⟨⟨⟨hsz,rfl⟩,hpos⟩,hbig⟩,hz⟩,hel⟩:=hok;obtain⟨zv,hzv,hzr,hzs,hzc⟩:=cP (P:=P) (X:=cx F Pr E o w) hz;have hzl:zero.length=sz:=by rw[hsz] at hzs;exact(Option.some.inj hzs).symm
   have hcs:zv.cells.size=sz:=by have:=hzr.1;simp at this;omega
   simp only[act,aa,ah] at h;obtain⟨ps,hmp,rfl,rfl⟩:=h;have hfl:=bD hzr (by omega) len;have hL:aP (cx F Pr E o w) (List.replicate len zero).flatten (Builtin.zeroCells zv.cells len).toList:=by rw[hfl];exact hzr.replicate len
   obtain⟨cells',g1,g2,g3,g4,g5,g6⟩:=eL R hpos hel hmp (by simp) (by intro i r hr;rw[cb i r hr,hzl]) (cR hzc) hL;have hsize:cells'.size=len*sz:=by rw[g5];simp[Builtin.zeroCells,hcs]
   obtain⟨R2,K⟩:=R.gA d nn n' {ar:=nn,sz:=sz,w:=true,bx:=false,rows:=ps.foldl (fun rs p=>rs.set p.1 p.2) (List.replicate len zero)} rfl hn cells'.toList cells' e (0,0) len (w':={w with heap:=w.heap.push (.cells cells' e)}) rfl rfl rfl rfl
    (by rw[g4];exact Nat.le_refl _) g3 g2 hsize (by simp) (by intro q v hq;simpa using hq) (fun _=>g6)
   refine⟨.slice (some (aY w.heap.size)) len len,_,_,.inl ?_,R2,.c _ _ (cg (sz:=sz) (b:=w.heap.size) (by simp[cx,E1]) (Nat.le_refl _))⟩;have hrun:(Instr.buildSlice ty len (qs.map fun q=>(q.1,a.eval q.2))).run P w= .ok (.slice (some (aY w.heap.size)) len len) {w with heap:=w.heap.push (.cells cells' e)}:=by
    have hbig':¬(len*sz>2^24):=by omega
    have hfill:Instr.fill (fun i=>some (i*sz,sz)) ((Array.range (len*sz)).map (zv.cells[·%zv.cells.size]!)) (qs.toList.map fun q=>(q.1,a.eval q.2))=some cells':=by
     have:(Array.range (len*sz)).map (zv.cells[·%zv.cells.size]!)=Builtin.zeroCells zv.cells len:=by rw[←hcs];rfl
     rw[this];exact g1
    by_cases hz0:len*sz=0
    ·have hl0:len=0:=by rcases Nat.mul_eq_zero.1 hz0 with q|q<;>omega
     subst hl0;have h0:(Array.range (0*sz)).map (fun x=>(#[]:Array Value)[x%(#[]:Array Value).size]!)=(Array.range (0*sz)).map (zv.cells[·%zv.cells.size]!):=by simp
     simp only[Instr.buildSlice,Sem.run_bind,run_underlying (bh he),Result.andThen_ok,aN hsz,hz0,if_true];rw[show 0*sz=0 from by simp] at*;simp only[Array.toList_map,Array.range_zero',Array.map_empty] at hfill ⊢;simp[hfill,newRow,aY]
    ·simp[Instr.buildSlice,run_underlying (bh he),aN hsz,hbig',hz0,bS hzv,hfill,newRow,aY]
   simp only[execOp,hop,Sem.run_bind,hrun];rfl
  ·cases hok
 |_=>rw[hop] at hok;simp[aM] at hok
theorem nu(R:Rel F Pr w0 lb N E n t o a w){nn:Nat}{n':Nat→Prop}(hn:Fr n nn n'){cf:au}{d sz len:Nat}{zero:List T}{parts:List (Nat×O)}{oper:Oper}(hok:aM P F (.jC sz len zero parts) oper.op=true){v:V}{aK:List (Nat×Ob)}
  (h:act cf nn d t o (.jC sz len zero parts)=some (v,aK)):dz P F Pr w0 lb N n' t o a w oper v aK:=by
 cases hop:oper.op with
 |buildSlice ty len' qs=>
  rw[hop] at hok;simp only[aM] at hok;split at hok
  ·rename_i e he;simp only[ae,beq_iff_eq,decide_eq_true_eq] at hok;obtain⟨⟨⟨⟨⟨hsz,rfl⟩,hpos⟩,hbig⟩,hz⟩,hel⟩:=hok;obtain⟨zv,hzv,hzr,hzs,hzc⟩:=cP (P:=P) (X:=cx F Pr E o w) hz;have hzl:zero.length=sz:=by rw[hsz] at hzs;exact(Option.some.inj hzs).symm
   have hcs:zv.cells.size=sz:=by have:=hzr.1;simp at this;omega
   simp only[act,aa,ah] at h;obtain⟨ps,hmp,rfl,rfl⟩:=h;have hfl:=bD hzr (by omega) len;have hL:aP (cx F Pr E o w) (List.replicate len zero).flatten (Builtin.zeroCells zv.cells len).toList:=by rw[hfl];exact hzr.replicate len
   obtain⟨cells',g1,g2,g3,g4,g5,g6⟩:=eL R hpos hel hmp (by simp) (by intro i r hr;rw[cb i r hr,hzl]) (cR hzc) hL;have hsize:cells'.size=len*sz:=by rw[g5];simp[Builtin.zeroCells,hcs]
   obtain⟨R2,K⟩:=R.gA d nn n' {ar:=nn,sz:=sz,w:=false,bx:=false,rows:=ps.foldl (fun rs p=>rs.set p.1 p.2) (List.replicate len zero)} rfl hn cells'.toList cells' e (0,0) len (w':={w with heap:=w.heap.push (.cells cells' e)}) rfl rfl rfl rfl
    (by rw[g4];exact Nat.le_refl _) g3 g2 hsize (by simp) (by intro q v hq;simpa using hq) (fun _=>g6)
   refine⟨.slice (some (aY w.heap.size)) len len,_,_,.inl ?_,R2,.c _ _ (cg (sz:=sz) (b:=w.heap.size) (by simp[cx,E1]) (Nat.le_refl _))⟩;have hrun:(Instr.buildSlice ty len (qs.map fun q=>(q.1,a.eval q.2))).run P w= .ok (.slice (some (aY w.heap.size)) len len) {w with heap:=w.heap.push (.cells cells' e)}:=by
    have hbig':¬(len*sz>2^24):=by omega
    have hfill:Instr.fill (fun i=>some (i*sz,sz)) ((Array.range (len*sz)).map (zv.cells[·%zv.cells.size]!)) (qs.toList.map fun q=>(q.1,a.eval q.2))=some cells':=by
     have:(Array.range (len*sz)).map (zv.cells[·%zv.cells.size]!)=Builtin.zeroCells zv.cells len:=by rw[←hcs];rfl
     rw[this];exact g1
    by_cases hz0:len*sz=0
    ·have hl0:len=0:=by rcases Nat.mul_eq_zero.1 hz0 with q|q<;>omega
     subst hl0;have h0:(Array.range (0*sz)).map (fun x=>(#[]:Array Value)[x%(#[]:Array Value).size]!)=(Array.range (0*sz)).map (zv.cells[·%zv.cells.size]!):=by simp
     simp only[Instr.buildSlice,Sem.run_bind,run_underlying (bh he),Result.andThen_ok,aN hsz,hz0,if_true];rw[show 0*sz=0 from by simp] at*;simp only[Array.toList_map,Array.range_zero',Array.map_empty] at hfill ⊢;simp[hfill,newRow,aY]
    ·simp[Instr.buildSlice,run_underlying (bh he),aN hsz,hbig',hz0,bS hzv,hfill,newRow,aY]
   simp only[execOp,hop,Sem.run_bind,hrun];rfl
  ·cases hok
 |_=>rw[hop] at hok;simp[aM] at hok
theorem oQ(R:Rel F Pr w0 lb N E n t o a w){nn:Nat}{n':Nat→Prop}(hn:Fr n nn n'){cf:au}{d:Nat}{x:O}{oper:Oper}(hok:aM P F (.pe x) oper.op=true){v:V}{aK:List (Nat×Ob)}
  (h:act cf nn d t o (.pe x)=some (v,aK)):dz P F Pr w0 lb N n' t o a w oper v aK:=by
 cases hop:oper.op with
 |convert s dt y=>
  rw[hop] at hok;simp only[aM] at hok;split at hok
  ·rename_i e he;simp only[ae,beq_iff_eq] at hok;obtain⟨⟨⟨hu8,hsz⟩,hstr⟩,hx⟩:=hok;simp only[act] at h;split at h
   ·rename_i z hz;split at h
    ·rename_i rows hrows;split at h;rotate_left
     ·cases h
     rename_i hcd;simp only[aa,ah] at h;obtain⟨bs,hbs,rfl,rfl⟩:=h;have hr:=aG R hx hz;generalize hv:a.eval y=val at hr;obtain⟨A,c,cs,rfl,hwid,hclo,hL,hcl,hfc⟩:=dH (P:=P) R hr hrows (sz:=1) (fun hne=>hcd.resolve_left (by simpa using hne)) (by decide);have key:∀(rows:List (List T)) (bs:List UInt8),di rows=some bs→∃ns:List Int,rows=ns.map (fun m=>[T.int .u8 m])∧bs=ns.map fun m=>UInt8.ofNat m.toNat:=by
      intro rows;unfold di
      induction rows with
      |nil=>intro bs h;simp[aS] at h;subst h;exact⟨[],rfl,rfl⟩
      |cons r rows ih=>
       intro bs h;simp only[aS] at h;split at h
       ·rename_i b bs' h1 h2;cases h;obtain⟨ns,e1,e2⟩:=ih bs' h2;split at h1
        ·rename_i m;cases h1;exact⟨m::ns,by simp[e1],by simp[e2]⟩
        ·cases h1
       ·cases h
     obtain⟨ns,e1,e2⟩:=key rows bs hbs;have hst:ByteArray.mk bs.toArray=ns.foldl (fun r m=>r.push (UInt8.ofNat m.toNat)) ByteArray.empty:=by
      subst e2;have:∀(ns:List Int) (s:ByteArray),ns.foldl (fun r m=>r.push (UInt8.ofNat m.toNat)) s=⟨s.data++(ns.map fun m=>UInt8.ofNat m.toNat).toArray⟩:=by
       intro ns
       induction ns with
       |nil=>intro s;simp
       |cons m ns ih=>
        intro s;simp only[gj,ih,aI];congr 1;simp[ByteArray.push]
      rw[this];simp[ByteArray.empty,ByteArray.emptyWithCapacity];rfl
     refine az R hn.b8 (val:= .string ⟨bs.toArray⟩) ?_ (.c _ _ (.str _));have hrun:(convert s dt (.slice A rows.length c)).run P w= .ok (.string ⟨bs.toArray⟩) w:=by
      rw[run_convert_bytes_string (P:=P) w s dt e A rows.length c (bh he) (f_ hu8) (ei hstr)];have hns:ns=[]∨ns≠[]:=by by_cases q:ns=[]<;>simp[q]
      rcases hns with q|q
      ·subst q;simp only[bC] at e1 e2;subst e1 e2;cases A with
       |none=>simp[Conv.bytesToString];rfl
       |some ad=>simp[Conv.bytesToString,loadCells,loadCellsFrom];rfl
      ·have hcs:cs=ns.map (Value.int .u8):=by
        apply List.ext_getElem?;intro k;have hfl:rows.flatten=ns.map (fun m=>T.int .u8 m):=by
         rw[e1];clear hwid hclo hL hcl hfc e1 e2 q hst hrows hr hv hcd hbs
         induction ns with
         |nil=>rfl
         |cons m ns ih=>simp only[aI,List.flatten_cons,ih];rfl
        rw[hfl] at hL;by_cases hk:k<ns.length
        ·have hk2:k<cs.length:=by rw[←hL.1];simpa using hk
         have:=hL.2 k (T.int .u8 ns[k]) cs[k] (by simp[hk]) (by simp[hk2]);rw[cF hk2,this.cJ];simp[hk]
        ·rw[bG (by rw[←hL.1];simpa using hk),bG (by simpa using hk)]
       have hfc0:(Builtin.firstCells 1 rows.length (.slice A rows.length c)).run P w= .ok cs.toArray w:=hfc w.drawn;cases A with
       |none=>
        simp[Builtin.firstCells] at hfc0;rw[hcs] at hfc0;simp at hfc0;exact(q hfc0).elim
       |some ad=>
        have hload:(loadCells ad rows.length).run P w= .ok (ns.map (Value.int .u8)).toArray w:=by
         simp only[Builtin.firstCells,Nat.mul_one] at hfc0;rw[hfc0,hcs]
        rw[run_bytesToString (P:=P) w ad rows.length c ns hload,hst]
     simp only[execOp,hop,hv,Sem.run_bind,hrun];rfl
    ·cases h
   ·cases h
  ·simp at hok
 |_=>rw[hop] at hok;simp[aM] at hok
end Mx
namespace Mx
open Go
def gM(P:Program):Nat→TypeId→Option (List Kc)
 |0,_=>none
 |d+1,t=>
  match P.underlying t with
  |some .bool=>some [.bool]
  |some (.int _)=>some [.int]
  |some .string=>some [.str]
  |some (.struct fs)=>if P.stoodInHeld t then none else
   fs.toList.foldl (fun (acc:Option (List Kc)) (f:Field)=>match acc with
    |none=>none
    |some l=>if f.name≠ "_" ∧f.offset=l.length then(match gM P d f.type with|some k=>if bw P f.type=some k.length∧0<k.length then some (l++k) else none|none=>none) else none) (some [])
  |_=>none
variable {P:Program} {F:Nat→FuncId} {Pr:Nat→Prop} {w0:World} {lb:Lb} {N:Nat} {E:Nat→Option Loc} {n:Nat→Prop} {t:List (Nat×V)} {o:List (Nat×Ob)} {a:Act} {w:World}
def valOf(P:Program)(t:TypeId)(cs:List Value):Value:=if cn P t=some true then .agg cs.toArray else cs.headD undef
theorem jk{ty:TypeId}{cs:Array Value}{off k:Nat}(hk:bw P ty=some k)(h0:0<k)(hf:off+k≤cs.size)(ha:cn P ty=some true∨(cn P ty=some false∧k=1)):
  (part ty cs off).run P w= .ok (valOf P ty ((cs.toList.drop off).take k)) w:=by
 rcases ha with ha|⟨ha,rfl⟩
 ·simp only[part,Sem.run_bind,bT ha,Result.andThen_ok,if_true,aN hk,Sem.run_pure,valOf,ha];congr 2;apply Array.ext';simp[List.take_drop]
 ·have:off<cs.size:=by omega
  simp only[part,Sem.run_bind,bT ha,Result.andThen_ok,aD,if_false,valOf,ha];simp[this,List.take_one,List.head?_drop]
theorem iR:∀{ks:List Kc} {xs ys:List T} {b:Bool},ij ks xs ys=some b→xs.length=ks.length∧ys.length=ks.length
 |[],[],[],_,_=>⟨rfl,rfl⟩
 |k::ks,x::xs,y::ys,b,h=>by
  simp only[ij] at h;split at h
  ·split at h
   ·rename_i hc;have:=iR hc;simp[this.1,this.2]
   ·cases h
  ·cases h
 |[],_::_,_,_,h=>by simp[ij] at h
 |[],[],_::_,_,h=>by simp[ij] at h
 |_::_,[],_,_,h=>by simp[ij] at h
 |_::_,_::_,[],_,h=>by simp[ij] at h
theorem ke{ks ls:List Kc}{xs us ys vs:List T}(hl:xs.length=ks.length)(hl2:ys.length=ks.length){b:Bool}(h:ij (ks++ls) (xs++us) (ys++vs)=some b):∃b1 b2,ij ks xs ys=some b1∧ij ls us vs=some b2∧b=(b1&&b2):=by
 induction ks generalizing xs ys b with
 |nil=>cases xs with
  |nil=>cases ys with
   |nil=>exact⟨true,b,rfl,h,by simp⟩
   |cons=>simp at hl2
  |cons=>simp at hl
 |cons k ks ih=>cases xs with
  |nil=>simp at hl
  |cons x xs=>cases ys with
   |nil=>simp at hl2
   |cons y ys=>
    simp only[List.cons_append,ij] at h;split at h
    ·rename_i b0 h0;split at h
     ·rename_i c hc;cases h;obtain⟨b1,b2,h1,h2,rfl⟩:=ih (by simpa using hl) (by simpa using hl2) hc;exact⟨b0&&b1,b2,by simp[ij,h0,h1],h2,by simp[Bool.and_assoc]⟩
     ·cases h
    ·cases h
theorem jA{d:Nat}{ty:TypeId}{k:List Kc}(h:gM P d ty=some k):cn P ty=some true∨(cn P ty=some false∧k.length=1):=by
 cases d with
 |zero=>simp[gM] at h
 |succ d=>
  simp only[gM] at h;split at h
  ·rename_i hu;cases h;right;simp[cn,hu]
  ·rename_i hu;cases h;right;simp[cn,hu]
  ·rename_i hu;cases h;right;simp[cn,hu]
  ·rename_i hu;left;simp[cn,hu]
  ·cases h
def eM(P:Program)(d:Nat)(acc:Option (List Kc))(f:Field):Option (List Kc):=match acc with
 |none=>none
 |some l=>if f.name≠ "_" ∧f.offset=l.length then(match gM P d f.type with|some k=>if bw P f.type=some k.length∧0<k.length then some (l++k) else none|none=>none) else none
theorem fK(d:Nat)(fs:List Field):fs.foldl (eM P d) none=none:=by
 induction fs with
 |nil=>rfl
 |cons f fs ih=>exact ih
theorem fJ{d:Nat}{l m:List Kc}{f:Field}(h:eM P d (some l) f=some m):∃k,f.name≠ "_" ∧f.offset=l.length∧gM P d f.type=some k∧bw P f.type=some k.length∧0<k.length∧m=l++k:=by
 simp only[eM] at h;split at h
 ·rename_i h1;split at h
  ·rename_i k hk;split at h
   ·rename_i h2;cases h;exact⟨k,h1.1,h1.2,hk,h2.1,h2.2,rfl⟩
   ·cases h
  ·cases h
 ·cases h
theorem ig{d:Nat}:∀{fs:List Field} {l k:List Kc},fs.foldl (eM P d) (some l)=some k→∃m,k=l++m
 |[],l,k,h=>by simp at h;exact⟨[],by simp[h]⟩
 |f::fs,l,k,h=>by
  simp only[gj] at h;cases hs:eM P d (some l) f with
  |none=>rw[hs,fK] at h;cases h
  |some m=>
   rw[hs] at h;obtain⟨k',_,_,_,_,_,rfl⟩:=fJ hs;obtain⟨m,rfl⟩:=ig h;exact⟨k'++m,by simp⟩
theorem eW{X:Cx}{d D:Nat}(ih:∀(ty:TypeId) (k:List Kc) (xs ys:List T) (vx vy:List Value) (b:Bool),gM P d ty=some k→aP X xs vx→aP X ys vy→ij k xs ys=some b→
   (Op.equalIn D ty (valOf P ty vx) (valOf P ty vy)).run P w= .ok b w) {xs ys:List T} {vx vy:Array Value} (hx:aP X xs vx.toList) (hy:aP X ys vy.toList):
  ∀{fs:List Field} {l m:List Kc} {b:Bool},fs.foldl (eM P d) (some l)=some (l++m)→xs.length=(l++m).length→ys.length=(l++m).length→ij m (xs.drop l.length) (ys.drop l.length)=some b→(Op.eqFields D vx vy fs).run P w= .ok b w
 |[],l,m,b,h,hxl,hyl,he=>by
  simp at h;subst h;simp only[gk] at hxl hyl;rw[List.drop_of_length_le (by omega),List.drop_of_length_le (by omega)] at he;simp[ij] at he;subst he;simp[Op.eqFields]
 |f::fs,l,m,b,h,hxl,hyl,he=>by
  simp only[gj] at h;cases hs:eM P d (some l) f with
  |none=>rw[hs,fK] at h;cases h
  |some l2=>
   rw[hs] at h;obtain⟨k',h1,h2,h3,h4,h5,rfl⟩:=fJ hs;obtain⟨m2,hm2⟩:=ig h;have hm:m=k'++m2:=by rw[ba] at hm2;exact List.append_cancel_left hm2
   subst hm;simp only[bt] at hxl hyl;have ex:xs.drop l.length=(xs.drop l.length).take k'.length++xs.drop (l.length+k'.length):=by rw[←List.drop_drop];exact(df k'.length _).symm
   have ey:ys.drop l.length=(ys.drop l.length).take k'.length++ys.drop (l.length+k'.length):=by rw[←List.drop_drop];exact(df k'.length _).symm
   rw[ex,ey] at he;obtain⟨b1,b2,e1,e2,rfl⟩:=ke (by simp;omega) (by simp;omega) he;have hxs:vx.size=xs.length:=by have:=hx.1;simpa using this.symm
   have hys:vy.size=ys.length:=by have:=hy.1;simpa using this.symm
   have p1:=jk (P:=P) (w:=w) (cs:=vx) (off:=l.length) h4 h5 (by omega) (jA h3);have p2:=jk (P:=P) (w:=w) (cs:=vy) (off:=l.length) h4 h5 (by omega) (jA h3);have p3:=ih f.type k' ((xs.drop l.length).take k'.length) ((ys.drop l.length).take k'.length) ((vx.toList.drop l.length).take k'.length) ((vy.toList.drop l.length).take k'.length) b1 h3 ((hx.drop _).take _) ((hy.drop _).take _) e1;have p4:=eW ih hx hy (l:=l++k') (m:=m2) (b:=b2) (by rw[ba];exact h) (by simp;omega) (by simp;omega) (by simpa using e2);simp only[Op.eqFields,ne_eq,h1,not_false_eq_true,if_true,h2,Sem.run_bind,p1,p2,Result.andThen_ok,p3,Sem.run_ite,p4,Sem.run_pure];cases b1<;>simp
theorem iQ{k:Kc}{xs ys:List T}{b:Bool}(h:ij [k] xs ys=some b):∃x y,xs=[x]∧ys=[y]∧pw k x y=some b:=by
 obtain⟨l1,l2⟩:=iR h
 match xs,ys,l1,l2 with
 |[x],[y],_,_=>
  refine⟨x,y,rfl,rfl, ?_⟩;simp only[ij] at h;split at h
  ·rename_i b0 hb0;simp at h;rw[hb0,h]
  ·cases h
theorem dj{X:Cx}{x:T}{vs:List Value}(h:aP X [x] vs):∃v,vs=[v]∧bc X x v:=by
 obtain⟨v,vs',rfl,h1,h2⟩:=h.gn;have:=h2.1;cases vs' with
 |nil=>exact⟨v,rfl,h1⟩
 |cons=>simp at this
theorem mb{X:Cx}:∀(d:Nat) (D:Nat) (ty:TypeId) (k:List Kc) (xs ys:List T) (vx vy:List Value) (b:Bool),d≤D→gM P d ty=some k→aP X xs vx→aP X ys vy→ij k xs ys=some b→
  (Op.equalIn D ty (valOf P ty vx) (valOf P ty vy)).run P w= .ok b w:=by
 intro d
 induction d with
 |zero=>intro D ty k xs ys vx vy b _ h;simp[gM] at h
 |succ d ih=>
  intro D ty k xs ys vx vy b hD h hx hy he;obtain⟨D,rfl⟩:∃D',D=D'+1:=⟨D-1,by omega⟩
  simp only[gM] at h;split at h
  ·rename_i hu;cases h;obtain⟨x,y,rfl,rfl,h3⟩:=iQ he;obtain⟨v,rfl,h1⟩:=dj hx;obtain⟨u,rfl,h2⟩:=dj hy;have ha:cn P ty=some false:=by simp[cn,hu]
   simp only[valOf,ha];unfold pw at h3;split at h3<;>first|contradiction|skip
   cases h3;rw[h1.fe,h2.fe];exact run_equalIn_bool hu D _ _
  ·rename_i k' hu;cases h;obtain⟨x,y,rfl,rfl,h3⟩:=iQ he;obtain⟨v,rfl,h1⟩:=dj hx;obtain⟨u,rfl,h2⟩:=dj hy;have ha:cn P ty=some false:=by simp[cn,hu]
   simp only[valOf,ha];unfold pw at h3;split at h3<;>first|contradiction|skip
   split at h3
   ·rename_i hk;subst hk;cases h3;rw[h1.cJ,h2.cJ];exact run_equalIn_int w D ty _ k' _ _ hu
   ·cases h3
  ·rename_i hu;cases h;obtain⟨x,y,rfl,rfl,h3⟩:=iQ he;obtain⟨v,rfl,h1⟩:=dj hx;obtain⟨u,rfl,h2⟩:=dj hy;have ha:cn P ty=some false:=by simp[cn,hu]
   simp only[valOf,ha];unfold pw at h3;split at h3<;>first|contradiction|skip
   cases h3;rw[h1.dC,h2.dC];have hbd:∀(a b:List UInt8),decide (a=b)=(a==b):=fun a b=>by rw[Bool.eq_iff_iff];simp
   rw[hbd];exact run_equalIn_string w D ty _ _ hu
  ·rename_i fs hu;split at h
   ·cases h
   ·rename_i hs;have ha:cn P ty=some true:=by simp[cn,hu]
    simp only[valOf,ha,if_true];have hf:P.fieldsOf ty=fs:=by simp[Program.fieldsOf,hu]
    rw[run_equalIn_agg w D ty _ _ (by rw[hf];exact hu) (by simpa using hs),hf];obtain⟨l1,l2⟩:=iR he;exact eW (d:=d) (fun ty k xs ys vx vy b h1 h2 h3 h4=>ih D ty k xs ys vx vy b (by omega) h1 h2 h3 h4) (by simpa using hx) (by simpa using hy) (l:=[]) (m:=k) h (by simpa using l1) (by simpa using l2) (by simpa using he)
  ·cases h
def n3(P:Program)(F:Nat→FuncId)(neg:Bool)(ks:List Kc)(x y:O):Op→Bool
 | .binOp op t x' y' _=>(op==if neg then .neq else .eql)&&(gM P 8 t==some ks)&&(cn P t==some true)&& !(P.eqGuardType P.depth t)&&okO F x x'&&okO F y y'
 |_=>false
theorem kX(R:Rel F Pr w0 lb N E n t o a w){nn:Nat}{n':Nat→Prop}(hn:Fr n nn n'){cf:au}{d:Nat}{neg:Bool}{ks:List Kc}{x y:O}{oper:Oper}(hok:n3 P F neg ks x y oper.op=true)
  {v:V} {aK:List (Nat×Ob)}
  (h:act cf nn d t o (.eqs neg ks x y)=some (v,aK)):dz P F Pr w0 lb N n' t o a w oper v aK:=by
 cases hop:oper.op with
 |binOp op ty x' y' ty'=>
  rw[hop] at hok;simp only[n3,ae,beq_iff_eq,Bool.not_eq_true'] at hok;obtain⟨⟨⟨⟨⟨rfl,he⟩,hagg⟩,hg⟩,hx⟩,hy⟩:=hok;simp only[act] at h;split at h
  ·rename_i xs ys h1 h2;simp only[aa,ah] at h;obtain⟨b,hb,rfl,rfl⟩:=h;unfold gD at h1 h2;split at h1
   ·rename_i ts1 hv1;split at h2
    ·rename_i ts2 hv2;cases h1;cases h2;have r1:=bz R hx hv1;have r2:=bz R hy hv2;generalize e1:a.eval x'=val1 at r1;generalize e2:a.eval y'=val2 at r2;cases r1 with
     |a _ cs1 hn1 hh1=>cases r2 with
      |a _ cs2 hn2 hh2=>
       have q:=mb (P:=P) (w:=w) 8 10000 ty ks xs ys cs1.toList cs2.toList b (by omega) he ⟨by simpa using hn1,fun i t v h1 h2=>hh1 i t v h1 (by simpa using h2)⟩ ⟨by simpa using hn2,fun i t v h1 h2=>hh2 i t v h1 (by simpa using h2)⟩ hb;simp only[valOf,hagg,if_true] at q;refine az R hn.b8 (val:= .bool (if neg then !b else b)) ?_ (.c _ _ (.bool _));cases neg
       ·simp only[execOp,hop,e1,e2,Sem.run_bind,run_eqGuard_agg w _ ty x' y' cs1 cs2 hg,Result.andThen_ok,aD,if_false,run_eql_struct,q];rfl
       ·simp only[execOp,hop,e1,e2,Sem.run_bind,run_eqGuard_agg w _ ty x' y' cs1 cs2 hg,Result.andThen_ok,if_true,run_neq_struct,q];rfl
    ·cases h2
   ·cases h1
  ·cases h
 |_=>rw[hop] at hok;simp[n3] at hok
end Mx
namespace Mx
open Go
variable {P:Program} {F:Nat→FuncId} {Pr:Nat→Prop} {w0:World} {lb:Lb} {N:Nat} {E:Nat→Option Loc} {n:Nat→Prop} {t:List (Nat×V)} {o:List (Nat×Ob)} {a:Act} {w:World}
theorem bc.o2{X Y:Cx}(hF:Y.F=X.F)(hc:∀ad v,¬X.U ad.block→X.w.cell? ad=some v→Y.w.cell? ad=some v∧¬Y.U ad.block){t:T}{v:Value}(h:bc X t v)(k:aH t):bc Y t v:=by
 induction h with
 |int k n=>exact .int _ _
 |bool b=>exact .bool b
 |str s=>exact .str s
 |cA sz=>exact .cA sz
 |sl own sz rows A c vs h1 hsz hcell hrep hcl ih=>
  refine .sl own sz rows A c vs h1 hsz ?_ (fun i j r t hr ht=>ih i j r t hr ht (hcl i j r t hr ht)) hcl;intro i j r t hr ht;obtain⟨ad,rfl,hu,hw⟩:=hcell i j r t hr ht;have hb:¬X.U (ad.add (i*sz+j)).block:=by rw[bo];exact hu
  have:=hc _ _ hb hw;rw[bo] at this;exact⟨ad,rfl,this.2,this.1⟩
 |row=>cases k
 |cI=>cases k
 |ptr=>cases k
 |vp cells j ad vs hcell hrep hcl ih=>
  refine .vp cells j ad vs ?_ (fun q t ht=>ih q t ht (hcl q t ht)) hcl;intro q t ht;obtain⟨hu,hw⟩:=hcell q t ht;have hb:¬X.U (ad.add q).block:=by rw[bo];exact hu
  have:=hc _ _ hb hw;rw[bo] at this;exact⟨this.2,this.1⟩
 |fn f caps cs hn hrep ih=>
  rw[←hF];cases k with
  |fn _ _ hcl=>exact .fn f caps cs hn fun i t v ht hv=>ih i t v ht hv (hcl i t ht)
theorem bc.scalar{X Y:Cx}{t:T}{v:Value}(h:bc X t v)(k:t.scalar=true):bc Y t v:=by
 cases h<;>first|(simp[T.scalar] at k;done)|constructor
theorem bj{α β:Type}{f:α→Option β}:∀{l:List α} {l':List β},aS f l=some l'→l'.length=l.length
 |[],l',h=>by simp[aS] at h;subst h;rfl
 |x::l,l',h=>by
  simp only[aS] at h;split at h
  ·rename_i y ys hy hys;cases h;simp[bj hys]
  ·cases h
theorem bK{α β:Type}{f:α→Option β}:∀{l:List α} {l':List β},aS f l=some l'→∀{i:Nat} {y:β},l'[i]? =some y→∃x,l[i]? =some x∧f x=some y
 |[],l',h,i,y,hy=>by simp[aS] at h;subst h;simp at hy
 |x::l,l',h,i,y,hy=>by
  simp only[aS] at h;split at h
  ·rename_i z zs hz hzs;cases h;cases i with
   |zero=>simp at hy;subst hy;exact⟨x,by simp,hz⟩
   |succ i=>
    obtain⟨x',h1,h2⟩:=bK hzs (i:=i) (y:=y) (by simpa using hy);exact⟨x',by simpa using h1,h2⟩
  ·cases h
theorem fv{α β:Type}{f:α→Option β}{l:List α}{l':List β}(h:aS f l=some l'){i:Nat}{x:α}(hx:l[i]? =some x):∃y,l'[i]? =some y∧f x=some y:=by
 have hi:i<l'.length:=by rw[bj h];exact(List.getElem?_eq_some_iff.1 hx).1
 obtain⟨x',h1,h2⟩:=bK h (i:=i) (y:=l'[i]) (by simp[hi]);rw[hx] at h1;cases h1;exact⟨l'[i],by simp[hi],h2⟩
def jO(E:Nat→Option Loc)(o:List (Nat×Ob))(id b:Nat):Prop:=∃ob cap sz,get o id=some ob∧E ob.ar=some (.bQ b cap sz)
structure Reads (F:Nat→FuncId) (Pr:Nat→Prop) (E:Nat→Option Loc) (o:List (Nat×Ob)) (w:World) (B:List Nat) (X:Cx):Prop where
 hF:X.F=F
 hw:X.w=w
 u:∀b,¬(cx F Pr E o w).U b→¬X.U b
 b:∀id∈B,∀b,jO E o id b→¬X.U b
theorem Reads.move{B:List Nat}{X:Cx}(D:Reads F Pr E o w B X){x:T}{v:Value}(h:bc (cx F Pr E o w) x v)(k:aH x):bc X x v:=
 h.o2 (by rw[D.hF];rfl) (fun ad v hu hc=>⟨by rw[D.hw];exact hc,D.u _ hu⟩) k
theorem Reads.mE(R:Rel F Pr w0 lb N E n t o a w){B:List Nat}{X:Cx}(D:Reads F Pr E o w B X){id:Nat}{ob:Ob}{b cap sz:Nat}(hg:get o id=some ob)(hE:E ob.ar=some (.bQ b cap sz))
  (hb:(ob.w=true→id∈B)):¬X.U b:=by
 cases hw:ob.w with
 |true=>exact D.b id (hb hw) b ⟨ob,cap,sz,hg,hE⟩
 |false=>
  refine D.u b ?_;rintro (⟨id',ob',cap',sz',g1,g2,g3⟩|hpr)
  ·have:=R.de id id' ob ob' b cap sz cap' sz' hg g1 hE g3;subst this;rw[hg] at g1;cases g1;rw[hw] at g2;cases g2
  ·have h1:=R.pr.1 b hpr;rcases (R.place id ob b cap sz hg hE).2 with q|q
   ·omega
   ·exact h1.2 q
theorem me(R:Rel F Pr w0 lb N E n t o a w){B:List Nat}{X:Cx}(D:Reads F Pr E o w B X){id ar off len:Nat}{ob:Ob}{v:Value}(hg:get o id=some ob)(hver:ob.ar=ar)(hfit:off+len≤ob.rows.length)
  (hb:ob.w=true→id∈B) (hbx:ob.bx=false) (hr:bc (cx F Pr E o w) (.row id ar off len) v):bc X (.sl false ob.sz ((ob.rows.drop off).take len)) v:=by
 cases hr with
 |row _ _ _ _ cap sz b hE hl ho=>
  have hnu:=Reads.mE R D hg (by rw[hver];exact hE) hb;obtain⟨e1,h1,h2,hcl,cs,e,fr,m1,m2,m3,m4⟩:=bO R hg hver hE;subst e1;have hlen:((ob.rows.drop off).take len).length=len:=by simp;omega
  have m1':w.heap[b]? =some (.cells cs e fr):=m1;have key:∀(i j:Nat) (r:List T) (t:T),((ob.rows.drop off).take len)[i]? =some r→r[j]? =some t→∃v,cs[(off+i)*ob.sz+j]? =some v∧bc (cx F Pr E o w) t v∧aH t:=by
   intro i j r t hr ht;rw[aC] at hr;split at hr
   ·rw[aL] at hr;obtain⟨v,q1,q2⟩:=m4 _ _ r t hr ht;exact⟨v,q1,q2,hcl hbx _ _ r t hr ht⟩
   ·cases hr
  have:bc X (.sl false ob.sz ((ob.rows.drop off).take len)) (.slice (some ((aY b).add (off*ob.sz))) ((ob.rows.drop off).take len).length (cap-off)):=by
   refine .sl false ob.sz _ _ _ (fun i j=>cs.getD ((off+i)*ob.sz+j) undef) ?_ ?_ ?_ ?_ ?_
   ·rw[hlen];omega
   ·intro i r hr;rw[aC] at hr;split at hr
    ·rw[aL] at hr;exact h2 _ r hr
    ·cases hr
   ·intro i j r t hr ht;obtain⟨v,hv,_⟩:=key i j r t hr ht;refine⟨_,rfl,by rw[bo];exact hnu, ?_⟩;rw[add_add,cw,D.hw];simp only[World.cell?,m1',Option.isSome_none,aD,if_false,ax];rw[show off*ob.sz+(i*ob.sz+j)=(off+i)*ob.sz+j from by rw[Nat.add_mul];omega,hv];rfl
   ·intro i j r t hr ht;obtain⟨v,hv,hrep,hc⟩:=key i j r t hr ht;simp only[ax,hv,bF];exact D.move hrep hc
   ·intro i j r t hr ht;exact(key i j r t hr ht).choose_spec.2.2
  rw[hlen] at this;exact this
 |cI _ _ hE=>simpa using bc.empty (X:=X) false ob.sz none 0
theorem ju(R:Rel F Pr w0 lb N E n t o a w){B:List Nat}{X:Cx}(D:Reads F Pr E o w B X){x y:T}{v:Value}(h:eI o x=some y)(hb:∀id∈wr o x,id∈B)(hr:bc (cx F Pr E o w) x v):
  bc X y v∧aH y:=by
 cases x with
 |ptr=>simp[eI] at h
 |fn=>simp[eI] at h
 |int k m=>simp[eI] at h;subst h;cases hr;exact⟨.int _ _,.int _ _⟩
 |bool b=>simp[eI] at h;subst h;cases hr;exact⟨.bool _,.bool _⟩
 |str s=>simp[eI] at h;subst h;cases hr;exact⟨.str _,.str _⟩
 |cA sz=>simp[eI] at h;subst h;cases hr;exact⟨.empty _ _ _ _,.sl _ _ _ (fun i j r t h=>by simp at h)⟩
 |sl own sz rows=>
  simp[eI] at h;subst h;cases hr with
  |sl _ _ _ A c vs h1 h2 h3 h4 h5=>exact⟨D.move (.sl false _ _ A c vs h1 h2 h3 h4 h5) (.sl _ _ _ h5),.sl _ _ _ h5⟩
 |vp cells j=>
  simp[eI] at h;subst h;cases hr with
  |vp _ _ ad vs h1 h2 h3=>exact⟨D.move (.vp _ _ ad vs h1 h2 h3) (.vp _ _ h3),.vp _ _ h3⟩
 |row id ar off len=>
  simp only[eI] at h;split at h
  ·rename_i ob hg;split at h
   ·rename_i hc;cases h;have:=me R D hg hc.1 hc.2.2 (fun hw=>hb id (by simp[wr,hg,hw])) hc.2.1 hr;refine⟨this, ?_⟩;cases this with
    |sl _ _ _ A c vs h1 h2 h3 h4 h5=>exact .sl _ _ _ h5
   ·cases h
  ·cases h
theorem jt(R:Rel F Pr w0 lb N E n t o a w){B:List Nat}{X:Cx}(D:Reads F Pr E o w B X){x y:T}{v:Value}(h:nM o x=some y)(hb:∀id∈lZ o x,id∈B)(hr:bc (cx F Pr E o w) x v):
  bc X y v∧aH y:=by
 cases x with
 |ptr id ar i j=>
  simp only[nM] at h;split at h
  ·rename_i ob hg;split at h
   ·rename_i hver;split at h
    ·rename_i r hrow;simp only[aa] at h;obtain⟨cells,hm,rfl⟩:=h;simp only[lZ,hg,hrow,dT,a_] at hb;cases hr with
     |ptr _ _ _ _ b cap sz hE=>
      have hnu:¬X.U b:=Reads.mE R D hg (by rw[hver];exact hE) (fun hw=>hb id (.inr (by simp[wr,hg,hw])));obtain⟨e1,h1,h2,hcl,cs,e,fr,m1,m2,m3,m4⟩:=bO R hg hver hE;subst e1;have m1':w.heap[b]? =some (.cells cs e fr):=m1;have key:∀(q:Nat) (t:T),cells[j+q]? =some t→∃u,cs[i*ob.sz+(j+q)]? =some u∧bc X t u∧aH t:=by
       intro q t ht;obtain⟨x,hx,hix⟩:=bK hm ht;obtain⟨u,hu,hru⟩:=m4 i (j+q) r x hrow hx;obtain⟨k1,k2⟩:=ju R D hix (fun id' hid=>hb id' (.inl ⟨x,bu hx,hid⟩)) hru;exact⟨u,hu,k1,k2⟩
      refine⟨.vp cells j _ (fun q=>cs.getD (i*ob.sz+(j+q)) undef) ?_ ?_ ?_,.vp _ _ ?_⟩
      ·intro q t ht;obtain⟨u,hu,_⟩:=key q t ht;refine⟨by rw[bo];exact hnu, ?_⟩;rw[add_add,cw,D.hw];simp only[World.cell?,m1',Option.isSome_none,aD,if_false,ax];rw[show i*ob.sz+j+q=i*ob.sz+(j+q) from by omega,hu];rfl
      ·intro q t ht;obtain⟨u,hu,k1,_⟩:=key q t ht;simp only[ax,hu,bF];exact k1
      ·intro q t ht;exact(key q t ht).choose_spec.2.2
      ·intro q t ht;exact(key q t ht).choose_spec.2.2
    ·cases h
   ·cases h
  ·cases h
 |_=>exact ju R D (by simpa only[nM] using h) (by simpa only[lZ] using hb) hr
theorem iN(R:Rel F Pr w0 lb N E n t o a w){B:List Nat}{X:Cx}(D:Reads F Pr E o w B X){x y:T}{v:Value}(h:im o x=some y)(hb:∀id∈k0 o x,id∈B)(hr:bc (cx F Pr E o w) x v):
  bc X y v:=by
 cases x with
 |fn f caps=>
  simp only[im,aa] at h;obtain⟨cs,hm,rfl⟩:=h;simp only[k0,a_] at hb;cases hr with
  |fn _ _ vs hn hrep=>
   rw[show (cx F Pr E o w).F=X.F from by rw[D.hF];rfl];refine .fn f cs vs (by rw[bj hm,hn]) ?_;intro i t v ht hv;obtain⟨x,hx,hix⟩:=bK hm ht;exact(jt R D hix (fun id hid=>hb id ⟨x,bu hx,hid⟩) (hrep i x v hx hv)).1
 |_=>exact(jt R D (by simpa only[im] using h) (by simpa only[k0] using hb) hr).1
theorem mH(R:Rel F Pr w0 lb N E n t o a w){B:List Nat}{X:Cx}(D:Reads F Pr E o w B X){x y:V}{v:Value}(h:x.im o=some y)(hb:∀id∈x.wr o,id∈B)(hr:bm (cx F Pr E o w) x v):
  bm X y v:=by
 cases hr with
 |c t v hr=>
  simp only[V.im,aa] at h;obtain⟨y,hy,rfl⟩:=h;exact .c _ _ (iN R D hy hb hr)
 |a ts cs hn hr=>
  simp only[V.im,aa] at h;obtain⟨y,hy,rfl⟩:=h;simp only[V.wr,a_] at hb;refine .a _ _ (by rw[bj hy,hn]) fun i t v ht hv=> ?_
  obtain⟨x,hx,hix⟩:=bK hy ht;exact iN R D hix (fun id hid=>hb id ⟨x,bu hx,hid⟩) (hr i x v hx hv)
 |fj=>simp[V.im] at h
 |undef=>simp[V.im] at h
def gV(lent:List (Nat×Ob))(E0:Nat→Option Loc)(b:Nat):Prop:=∃p ob cap sz,get lent p=some ob∧E0 ob.ar=some (.bQ b cap sz)
structure Entry (F:Nat→FuncId) (Pr:Nat→Prop) (E0:Nat→Option Loc) (as:List V) (lent:List (Nat×Ob)) (vals:Array Value) (w:World):Prop where
 n:as.length=vals.size
 args:∀(i:Nat) (v:V) (x:Value),as[i]? =some v→vals[i]? =some x→bm (cx F Pr E0 lent w) v x
 cS:∀p ob,get lent p=some ob→ob.ar=p∧(cu as.length p=true∧p<2000000)∧ob.w=true∧∃l,E0 p=some l∧cD (cx F Pr E0 lent w) ob l
 place:∀p ob b cap sz,get lent p=some ob→E0 ob.ar=some (.bQ b cap sz)→b<w.heap.size
 de:∀id id' ob ob' b cap sz cap' sz',get lent id=some ob→get lent id'=some ob'→E0 ob.ar=some (.bQ b cap sz)→E0 ob'.ar=some (.bQ b cap' sz')→id=id'
 fresh:∀ar l,E0 ar=some l→ar<2000000
 pr:(∀b,Pr b→b<w.heap.size∧¬gV lent E0 b)∧kv F (gV lent E0) w
def mz:Loc→Nat→Value
 | .nil,_=> .slice none 0 0
 | .bQ b cap _,len=> .slice (some (aY b)) len cap
inductive eP (X:Cx) (own:Nat→Option Loc) (lent:List (Nat×Ob)) (q:Nat):T→Value→Prop
 |int (k:IntKind) (n:Int):eP X own lent q (.int k n) (.int k n)
 |bool (b:Bool):eP X own lent q (.bool b) (.bool b)
 |str (s:ByteArray):eP X own lent q (.str s) (.string s)
 |own (sz:Nat) (rows:List (List T)) (l:Loc) (h:own q=some l) (hr:cD X {ar:=0,sz:=sz,w:=true,bx:=false,rows:=rows} l):eP X own lent q (.sl true sz rows) (mz l rows.length)
 |box (cells:List T) (b cap:Nat) (h:own q=some (.bQ b cap cells.length)) (hr:cD X {ar:=0,sz:=cells.length,w:=true,bx:=true,rows:=[cells]} (.bQ b cap cells.length))
   (hc:∀(j:Nat) (t:T),cells[j]? =some t→aH t):eP X own lent q (.vp cells 0) (.pointer (some (aY b)))
 |sh (sz:Nat) (rows:List (List T)) (v:Value) (h:bc X (.sl false sz rows) v):eP X own lent q (.sl false sz rows) v
 |row (p ar off len:Nat) (v:Value) (h:∀ob,get lent p=some ob→bc X (.row p p off len) v):eP X own lent q (.row p ar off len) v
def lX(X:Cx)(own:Nat→Option Loc)(lent:List (Nat×Ob)):Nat→List T→List Value→Prop
 |_,[],[]=>True
 |q,t::ts,v::vs=>eP X own lent q t v∧lX X own lent (q+1) ts vs
 |_,_,_=>False
def iX(X:Cx)(own:Nat→Option Loc)(lent:List (Nat×Ob))(q:Nat):V→Value→Prop
 | .c t,v=>eP X own lent q t v
 | .a ts,.agg cs=>lX X own lent q ts cs.toList
 |_,_=>False
def V.width:V→Nat
 | .c _=>1
 | .a ts=>ts.length
 |_=>0
def iz(X:Cx)(own:Nat→Option Loc)(lent:List (Nat×Ob)):Nat→List V→List Value→Prop
 |_,[],[]=>True
 |q,t::ts,v::vs=>iX X own lent q t v∧iz X own lent (q+t.width) ts vs
 |_,_,_=>False
def oU(X:Cx)(own:Nat→Option Loc)(lent:List (Nat×Ob)):V→Value→Prop
 | .fj vs,.tuple xs=>iz X own lent 0 vs xs.toList
 |v,x=>iX X own lent 0 v x
def rx(F:Nat→FuncId)(Pr:Nat→Prop)(E0:Nat→Option Loc)(lent:List (Nat×Ob))(E':Nat→Option Loc)(own:Nat→Option Loc)(w':World):Cx:=
 {w:=w',U:=fun b=>gV lent E0 b∨Pr b∨∃q cap sz,own q=some (.bQ b cap sz),E:=E',F:=F}
structure oW (F:Nat→FuncId) (Pr:Nat→Prop) (E0:Nat→Option Loc) (lent:List (Nat×Ob)) (w:World) (E':Nat→Option Loc) (own:Nat→Option Loc) (res:V) (after:List (Nat×Ob)) (val:Value) (w':World):Prop where
 os:w'.os=w.os
 tape:w'.tape=w.tape
 output:w'.output=w.output
 size:w.heap.size≤w'.heap.size
 frame:∀b,b<w.heap.size→¬gV lent E0 b→w'.heap[b]? =w.heap[b]?
 ext:∀ar l,E0 ar=some l→E' ar=some l
 fresh:∀q b cap sz,own q=some (.bQ b cap sz)→(w.heap.size≤b∨∃p ob cap' sz',get lent p=some ob∧get after p=none∧E0 ob.ar=some (.bQ b cap' sz'))∧b<w'.heap.size
 de:∀q q' b cap sz cap' sz',own q=some (.bQ b cap sz)→own q'=some (.bQ b cap' sz')→q=q'
 res:oU (rx F Pr E0 lent E' own w') own lent res val
 cS:∀p ob ob' l,get lent p=some ob→get after p=some ob'→E0 p=some l→cD (rx F Pr E0 lent E' own w') {ob with rows:=ob'.rows} l∧
  ∀(i j:Nat) (r:List T) (t:T),ob'.rows[i]? =some r→r[j]? =some t→aH t
def ec(P:Program)(F:Nat→FuncId)(cf:au):Prop:=
 ∀f as lent res after,cf f as lent=some (res,after)→iK P F f=true∧∀Pr E0 vals w,Entry F Pr E0 as lent vals w→
  Calls P (F f) vals w fun e w'=>∃val E' own,e= .returned val∧oW F Pr E0 lent w E' own res after val w'
theorem get_mem{α:Type}:∀{l:List (Nat×α)} {k:Nat} {v:α},get l k=some v→(k,v)∈l
 |[],_,_,h=>by simp[get] at h
 |(k',v')::l,k,v,h=>by
  simp only[get] at h;split at h
  ·rename_i e;cases h;subst e;exact bd ..
  ·exact aU _ (get_mem h)
theorem fa{α:Type}:∀{l:List (Nat×α)} {k:Nat} {v:α},(l.map (·.1)).Nodup→(k,v)∈l→get l k=some v
 |[],_,_,_,h=>by simp at h
 |(k',v')::l,k,v,hn,h=>by
  simp only[aI,List.nodup_cons] at hn;rcases List.mem_cons.1 h with e|e
  ·cases e;simp[get]
  ·have:k≠k':=fun q=>hn.1 (by subst q;exact iZ (f:=(·.1)) e)
   simp only[get,if_neg this];exact fa hn.2 e
theorem cK{α β:Type}{f:α→β}:∀{l:List α},(l.map f).Nodup→∀{x y:α},x∈l→y∈l→f x=f y→x=y
 |[],_,x,_,h,_,_=>by simp at h
 |z::l,hn,x,y,hx,hy,e=>by
  simp only[aI,List.nodup_cons] at hn;rcases List.mem_cons.1 hx with rfl|hx'<;>rcases List.mem_cons.1 hy with rfl|hy'
  ·rfl
  ·exact(hn.1 (by rw[e];exact iZ hy')).elim
  ·exact(hn.1 (by rw[←e];exact iZ hx')).elim
  ·exact cK hn.2 hx' hy' e
def eQ(o:List (Nat×Ob))(l:Nat×Nat×Ob):Prop:=
 ∃b,get o l.2.1=some b∧b.w=true∧l.2.2.ar=l.1∧l.2.2.sz=b.sz∧l.2.2.w=true∧l.2.2.bx=b.bx∧(l.2.2.rows=b.rows∧b.bx=false∨aS (fun r=>aS (cl o) r) b.rows=some l.2.2.rows)
theorem gE{p id:Nat}{v v':V}{ob:Ob}{x:Value}{X:Cx}(h:b_ o p v=some (v',id,ob))(hr:bm (cx F Pr E o w) v x)(hE:∀b,get o id=some b→X.E p=E b.ar):
  eQ o (p,id,ob)∧bm X v' x:=by
 unfold b_ at h;split at h
 ·rename_i id' ar;split at h
  ·rename_i b hg;split at h
   ·rename_i hc;simp only[aa,ah] at h;obtain⟨rows,hm,rfl,rfl,rfl⟩:=h;refine⟨⟨b,hg,hc.2.1,rfl,rfl,hc.2.1,rfl,.inr hm⟩,.c _ _ ?_⟩;cases hr with
    |c _ _ hr=>
     cases hr with
     |ptr _ _ _ _ bk cap sz hE'=>exact .ptr p p 0 0 bk cap sz ((hE b hg).trans (by rw[hc.1];exact hE'))
   ·cases h
  ·cases h
 ·rename_i id' ar len;split at h
  ·rename_i b hg;split at h
   ·rename_i hc;simp only[af,ah] at h;obtain⟨rfl,rfl,rfl⟩:=h;refine⟨⟨b,hg,hc.2.1,rfl,rfl,hc.2.1,rfl,.inl ⟨rfl,hc.2.2.1⟩⟩,.c _ _ ?_⟩;cases hr with
    |c _ _ hr=>
     cases hr with
     |row _ _ _ _ cap sz bk hE' hl ho=>exact .row p p 0 len cap sz bk ((hE b hg).trans (by rw[hc.1];exact hE')) hl ho
     |cI _ _ hE'=>exact .cI p p ((hE b hg).trans (by rw[hc.1];exact hE'))
   ·cases h
  ·cases h
 ·cases h
theorem fg.move{X Y:Cx}{ob ob':Ob}{b cap:Nat}(h:fg X ob b cap)(hh:Y.w.heap[b]? =X.w.heap[b]?)(h1:ob'.rows=ob.rows)(h2:ob'.sz=ob.sz)(hc:ob'.bx=false→∀(i j:Nat) (r:List T) (t:T),ob'.rows[i]? =some r→r[j]? =some t→aH t)
  (hr:∀(i j:Nat) (r:List T) (t:T) (v:Value),ob.rows[i]? =some r→r[j]? =some t→bc X t v→bc Y t v):fg Y ob' b cap:=by
 obtain⟨hl,hw,hcl,cs,e,fr,g1,g2,g3,g4⟩:=h;refine⟨by rw[h1];exact hl,by rw[h1,h2];exact hw,hc,cs,e,fr,hh.trans g1,by rw[h2];exact g2,g3, ?_⟩;rw[h1,h2];intro i j r t hi ht;obtain⟨v,q1,q2⟩:=g4 i j r t hi ht;exact⟨v,q1,hr i j r t v hi ht q2⟩
theorem mC(R:Rel F Pr w0 lb N E n t o a w){B:List Nat}{X:Cx}(D:Reads F Pr E o w B X){l:Nat×Nat×Ob}(h:eQ o l):∃b loc,get o l.2.1=some b∧E b.ar=some loc∧cD X l.2.2 loc:=by
 obtain⟨b,hg,hw,h1,h2,h3,h4,h5⟩:=h;obtain⟨_,loc,hl,hr⟩:=R.cS _ b hg;refine⟨b,loc,hg,hl, ?_⟩;cases loc with
 |nil=>
  refine⟨?_,by rw[h4];exact hr.2⟩;rcases h5 with⟨q,_⟩|q
  ·rw[q];exact hr.1
  ·have hr1:b.rows=[]:=hr.1;rw[hr1] at q;simp[aS] at q;exact q
 |bQ bk cap sz=>
  obtain⟨e,hob⟩:=hr;subst e;refine⟨h2.symm, ?_⟩;rcases h5 with⟨q,hbx⟩|q
  ·exact hob.move (by rw[D.hw];rfl) q h2 (fun _=>by rw[q];exact hob.cl hbx) fun i j r t v hi ht hv=>D.move hv (hob.cl hbx i j r t hi ht)
  ·obtain⟨hlen,hwid,hcl,cs,e,fr,g1,g2,g3,g4⟩:=hob;have key:∀(i j:Nat) (r:List T) (t:T),l.2.2.rows[i]? =some r→r[j]? =some t→∃v,cs[i*b.sz+j]? =some v∧bc (cx F Pr E o w) t v∧aH t:=by
    intro i j r t hi ht;obtain⟨r0,k1,k2⟩:=bK q hi;obtain⟨t0,k3,k4⟩:=bK k2 ht;obtain⟨v,m1,m2⟩:=g4 i j r0 t0 k1 k3;exact⟨v,m1,gQ R k4 m2,en R k4 m2⟩
   refine⟨by rw[bj q];exact hlen, ?_,fun _ i j r t hi ht=>(key i j r t hi ht).choose_spec.2.2,cs,e,fr,by rw[D.hw];exact g1,by rw[h2];exact g2,g3, ?_⟩
   ·intro i r hi;obtain⟨r0,k1,k2⟩:=bK q hi;rw[bj k2,h2];exact hwid i r0 k1
   ·rw[h2];intro i j r t hi ht;obtain⟨v,m1,m2,m3⟩:=key i j r t hi ht;exact⟨v,m1,D.move m2 m3⟩
theorem gF(R:Rel F Pr w0 lb N E n t o a w){B:List Nat}{X:Cx}{lend:List Nat}(D:Reads F Pr E o w B X):∀{ts:List T} {k:Nat} {ts':List T} {ls:List (Nat×Nat×Ob)} {b:List Nat} {vs:List Value},dr o lend k ts=some (ts',ls,b)→
  ts.length=vs.length→(∀(i:Nat) (t:T) (x:Value),ts[i]? =some t→vs[i]? =some x→bc (cx F Pr E o w) t x)→(∀id∈b,id∈B)→(∀l∈ls,∀ob,get o l.2.1=some ob→X.E l.1=E ob.ar)→
  ts'.length=ts.length∧∀(i:Nat) (t:T) (x:Value),ts'[i]? =some t→vs[i]? =some x→bc X t x
 |[],k,ts',ls,b,vs,h,hx,hr,hb,hE=>by
  simp[dr] at h;obtain⟨rfl,rfl,rfl⟩:=h;exact⟨rfl,fun i v x hi=>by simp at hi⟩
 |t::ts,k,ts',ls,b,v::vs,h,hx,hr,hb,hE=>by
  simp only[dr] at h;split at h
  ·cases h
  ·rename_i ts1 ls1 b1 hrest;have hhead:=hr 0 t v (by simp) (by simp);have htail:∀(i:Nat) (t:T) (x:Value),ts[i]? =some t→vs[i]? =some x→bc (cx F Pr E o w) t x:=fun i v x h1 h2=>hr (i+1) v x (by simpa using h1) (by simpa using h2)
   split at h
   ·split at h
    ·rename_i t' id ob hlo;simp only[af,ah] at h;obtain⟨rfl,rfl,rfl⟩:=h;obtain⟨i1,i2⟩:=gF R D hrest (by simpa using hx) htail hb (fun l hl=>hE l (aU _ hl));obtain⟨_,k2⟩:=gE (F:=F) (Pr:=Pr) (w:=w) (X:=X) hlo (.c _ _ hhead) (fun b hb=>hE (k,id,ob) (bd ..) b hb);refine⟨by simp[i1],fun i u y hu hy=> ?_⟩;cases i with
     |zero=>simp at hu hy;subst hu hy;exact k2.gR
     |succ i=>exact i2 i u y (by simpa using hu) (by simpa using hy)
    ·cases h
   ·split at h
    ·rename_i t' ht';simp only[af,ah] at h;obtain⟨rfl,rfl,rfl⟩:=h;obtain⟨i1,i2⟩:=gF R D hrest (by simpa using hx) htail (fun id hid=>hb id (List.mem_append_right _ hid)) hE;refine⟨by simp[i1],fun i u y hu hy=> ?_⟩;cases i with
     |zero=>simp at hu hy;subst hu hy;exact iN R D ht' (fun id hid=>hb id (List.mem_append_left _ hid)) hhead
     |succ i=>exact i2 i u y (by simpa using hu) (by simpa using hy)
    ·cases h
 |_::_,_,_,_,_,[],_,hx,_,_,_=>by simp at hx
theorem gi(R:Rel F Pr w0 lb N E n t o a w){B:List Nat}{X:Cx}{lend:List Nat}(D:Reads F Pr E o w B X):∀{vals:List V} {p:Nat} {as:List V} {ls:List (Nat×Nat×Ob)} {b:List Nat} {xs:List Value},args o lend p vals=some (as,ls,b)→
  vals.length=xs.length→(∀(i:Nat) (v:V) (x:Value),vals[i]? =some v→xs[i]? =some x→bm (cx F Pr E o w) v x)→(∀id∈b,id∈B)→(∀l∈ls,∀ob,get o l.2.1=some ob→X.E l.1=E ob.ar)→
  as.length=vals.length∧(∀(i:Nat) (v:V) (x:Value),as[i]? =some v→xs[i]? =some x→bm X v x)
 |[],p,as,ls,b,xs,h,hx,hr,hb,hE=>by
  simp[args] at h;obtain⟨rfl,rfl,rfl⟩:=h;exact⟨rfl,fun i v x hi=>by simp at hi⟩
 |v::vals,p,as,ls,b,x::xs,h,hx,hr,hb,hE=>by
  simp only[args] at h;split at h
  ·cases h
  ·rename_i as' ls' b' hrest;have hhead:=hr 0 v x (by simp) (by simp);have htail:∀(i:Nat) (v:V) (x:Value),vals[i]? =some v→xs[i]? =some x→bm (cx F Pr E o w) v x:=fun i v x h1 h2=>hr (i+1) v x (by simpa using h1) (by simpa using h2)
   split at h
   ·split at h
    ·rename_i v' id ob hlo;simp only[af,ah] at h;obtain⟨rfl,rfl,rfl⟩:=h;obtain⟨i1,i2⟩:=gi R D hrest (by simpa using hx) htail hb (fun l hl=>hE l (aU _ hl));obtain⟨k1,k2⟩:=gE (F:=F) (Pr:=Pr) (w:=w) (X:=X) hlo hhead (fun b hb=>hE (p,id,ob) (bd ..) b hb);refine⟨by simp[i1], ?_⟩;intro i u y hu hy;cases i with
     |zero=>simp at hu hy;subst hu hy;exact k2
     |succ i=>exact i2 i u y (by simpa using hu) (by simpa using hy)
    ·cases h
   ·split at h
    ·split at h
     ·rename_i ts;split at h
      ·split at h
       ·rename_i ts' ls1 b1 hcells;simp only[af,ah] at h;obtain⟨rfl,rfl,rfl⟩:=h;obtain⟨i1,i2⟩:=gi R D hrest (by simpa using hx) htail (fun id hid=>hb id (List.mem_append_right _ hid)) (fun l hl=>hE l (List.mem_append_right _ hl));refine⟨by simp[i1], ?_⟩;intro i u y hu hy;cases i with
        |zero=>
         simp at hu hy;subst hu hy;cases hhead with
         |a _ cs hn hrr=>
          obtain⟨q1,q2⟩:=gF R D hcells (vs:=cs.toList) (by simpa using hn) (fun i t x h1 h2=>hrr i t x h1 (by simpa using h2)) (fun id hid=>hb id (List.mem_append_left _ hid)) (fun l hl=>hE l (List.mem_append_left _ hl));exact .a _ _ (by rw[q1,hn]) fun i t v ht hv=>q2 i t v ht (by simpa using hv)
        |succ i=>exact i2 i u y (by simpa using hu) (by simpa using hy)
       ·cases h
      ·cases h
     ·cases h
    ·split at h
     ·rename_i v' hv';simp only[af,ah] at h;obtain⟨rfl,rfl,rfl⟩:=h;obtain⟨i1,i2⟩:=gi R D hrest (by simpa using hx) htail (fun id hid=>hb id (List.mem_append_right _ hid)) hE;refine⟨by simp[i1], ?_⟩;intro i u y hu hy;cases i with
      |zero=>simp at hu hy;subst hu hy;exact mH R D hv' (fun id hid=>hb id (List.mem_append_left _ hid)) hhead
      |succ i=>exact i2 i u y (by simpa using hu) (by simpa using hy)
     ·cases h
 |_::_,_,_,_,_,[],_,hx,_,_,_=>by simp at hx
end Mx
