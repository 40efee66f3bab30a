/-
  A small machine over trees stands to the machine of the model as said; what Go functions of this part compute there.
-/
import GoSem.Core.Code
import GoSem.Op.IntArith
import Derived.Tactics
import Derived.Laws.Cells
import Derived.Laws.World
import Derived.Laws.Append
import Derived.Laws.Tables
import Derived.Laws.MakeOwn
import Derived.Laws.BytesString
import Derived.Laws.AppendOwn
import Derived.Below
import Derived.Laws.StructEq
set_option maxHeartbeats 16000000
set_option linter.unusedSimpArgs false
set_option linter.unusedVariables false
namespace Mx
theorem aa:type_of% @List.take_of_length_le:=@List.take_of_length_le
theorem ab:type_of% @Option.map_eq_some_iff:=@Option.map_eq_some_iff
theorem ae:type_of% @Bool.and_eq_true:=@Bool.and_eq_true
theorem af:type_of% @Option.some.injEq:=@Option.some.injEq
theorem ah:type_of% @Prod.mk.injEq:=@Prod.mk.injEq
theorem ak:type_of% @List.length_cons:=@List.length_cons
theorem aq:type_of% @List.range_succ:=@List.range_succ
theorem au:type_of% @List.all_eq_true:=@List.all_eq_true
theorem av:type_of% @Bool.false_eq_true:=@Bool.false_eq_true
theorem aI:type_of% @Array.getD_eq_getD_getElem?:=@Array.getD_eq_getD_getElem?
theorem aO:type_of% @List.getElem?_take:=@List.getElem?_take
theorem aU:type_of% @Nat.mul_le_mul_right:=@Nat.mul_le_mul_right
theorem aV:type_of% @List.mem_cons_of_mem:=@List.mem_cons_of_mem
theorem aW:type_of% @List.getElem?_append:=@List.getElem?_append
theorem aY:type_of% @List.map_cons:=@List.map_cons
theorem a8:type_of% @List.mem_cons_self:=@List.mem_cons_self
theorem a_:type_of% @List.length_append:=@List.length_append
theorem bd:type_of% @List.length_nil:=@List.length_nil
theorem bh:type_of% @List.append_assoc:=@List.append_assoc
theorem bp:type_of% @List.getElem?_drop:=@List.getElem?_drop
theorem bG:type_of% @List.getElem_mem:=@List.getElem_mem
theorem bJ:type_of% @List.getElem?_map:=@List.getElem?_map
theorem bL:type_of% @List.mem_flatMap:=@List.mem_flatMap
theorem bM:type_of% @List.drop_eq_getElem_cons:=@List.drop_eq_getElem_cons
theorem bX:type_of% @List.map_nil:=@List.map_nil
theorem bY:type_of% @List.flatMap_cons:=@List.flatMap_cons
theorem b9:type_of% @List.nil_append:=@List.nil_append
theorem b_:type_of% @List.append_nil:=@List.append_nil
theorem cg:type_of% @List.getElem?_eq_getElem:=@List.getElem?_eq_getElem
theorem ch:type_of% @List.mem_of_getElem?:=@List.mem_of_getElem?
theorem cp:type_of% @Option.map_some:=@Option.map_some
theorem cw:type_of% @Option.getD_some:=@Option.getD_some
theorem cy:type_of% @Int.cast_ofNat_Int:=@Int.cast_ofNat_Int
theorem cz:type_of% @List.getElem?_eq_none:=@List.getElem?_eq_none
theorem cT:type_of% @List.length_take:=@List.length_take
theorem dD:type_of% @List.map_append:=@List.map_append
theorem dS:type_of% @List.drop_eq_nil_of_le:=@List.drop_eq_nil_of_le
theorem dT:type_of% @Int.toNat_natCast:=@Int.toNat_natCast
theorem ea:type_of% @List.take_append_drop:=@List.take_append_drop
theorem eY:type_of% @Prod.exists:=@Prod.exists
theorem fa:type_of% @List.mem_append:=@List.mem_append
theorem iA:type_of% @List.foldl_cons:=@List.foldl_cons
theorem jq:type_of% @List.length_singleton:=@List.length_singleton
theorem kx:type_of% @List.mem_map_of_mem:=@List.mem_map_of_mem
theorem lq:type_of% @List.mem_singleton:=@List.mem_singleton
theorem sg:type_of% @List.mem_map:=@List.mem_map
end Mx
namespace Mx
open Go (IntKind BinOp)
inductive T where
 |int (k:IntKind) (n:Int)
 |bool (b:Bool)
 |str (s:ByteArray)
 |dm (sz:Nat)
 |sl (own:Bool) (sz:Nat) (rows:List (List T))
 |row (id aw off len:Nat)
 |ptr (id aw i j:Nat)
 |vp (cells:List T) (j:Nat)
 |fn (f:Nat) (caps:List T)
 deriving Inhabited
inductive V where
 |c (t:T)
 |a (ts:List T)
 |fW (vs:List V)
 |undef
 deriving Inhabited
structure Ob where
 aw:Nat
 sz:Nat
 w:Bool
 bx:Bool
 rows:List (List T)
def get{α:Type}:List (Nat×α)→Nat→Option α
 |[],_=>none
 |(k,v)::l,x=>if x=k then some v else get l x
def keep{α:Type}(ks:List Nat)(l:List (Nat×α)):List (Nat×α):=ks.filterMap fun k=>(get l k).map fun v=>(k,v)
def bB{α β:Type}(f:α→Option β):List α→Option (List β)
 |[]=>some []
 |x::xs=>match f x,bB f xs with|some y,some ys=>some (y::ys)|_,_=>none
structure St where
 t:List (Nat×V)
 o:List (Nat×Ob)
 n:Nat
inductive O where
 |t (n:Nat)
 |k (v:T)
 |fn (f:Nat)
 deriving Inhabited
inductive Kc where
 |int
 |bool
 |str
 deriving DecidableEq,Inhabited
inductive MO where
 |mv (x:O)
 |np
 |nil (sz:Nat)
 |pick (c a b:O)
 |alloc (zero:List T)
 |box (x:O)
 |build (zero:List T) (parts:List (Nat×Nat×O))
 |cd (sz len:Nat) (zero:List T) (parts:List (Nat×O))
 |ie (sz len:Nat) (zero:List T) (parts:List (Nat×O))
 |load (agg:Bool) (n:Nat) (a:O)
 |store (n:Nat) (a x:O)
 |beq (neg:Bool) (x y:O)
 |bin (op:BinOp) (x y:O)
 |eqs (neg:Bool) (ks:List Kc) (x y:O)
 |not (x:O)
 |neg (x:O)
 |lQ (k:IntKind) (x:O)
 |qV (x:O)
 |rI (sz bytes:Nat) (zero:List T) (x:O)
 |rJ (sz bytes:Nat) (zero:List T) (x y:O)
 |iI (x:O) (lo hi:Option O)
 |qO (sz:Nat) (x:O) (lo hi mx:Option O)
 |fI (off:Nat) (a:O)
 |dB (sz:Nat) (x ix:O)
 |idx (x ix:O)
 |p5 (agg:Bool) (off n:Nat) (x:O)
 |ext (i:Nat) (x:O)
 |len (x:O)
 |fC (x:O)
 |app (sz bytes:Nat) (x y:O)
 |lf (sz bytes:Nat) (x y:O)
 |kG (sz:Nat) (x:O) (lo hi:Option O)
 |qU (zero:List T) (x:O)
 |max (x y:O)
 |min (x y:O)
 |call (f:Nat) (args:List O) (lend:List Nat) (thaw:List (Nat×Nat))
 |hJ (f:O) (args:List O)
 |lL (f:Nat) (caps:List O)
 |fD (x:O)
 deriving Inhabited
structure dj where
 dst:Option Nat
 op:MO
 guard:Option (Nat×Bool):=none
 deriving Inhabited
abbrev kI(n:Int):O:= .k (.int .i64 n)
abbrev kB(b:Bool):O:= .k (.bool b)
abbrev lr(n:Nat):List Nat:=List.range n
abbrev Q(d:Nat)(x:MO):dj:=⟨some d,x,none⟩
abbrev Qn(x:MO):dj:=⟨none,x,none⟩
abbrev Qg(d:Nat)(x:MO)(g:Nat)(b:Bool):dj:=⟨some d,x,some (g,b)⟩
abbrev Qm(d x:Nat):dj:=⟨some d,.mv (.t x),none⟩
abbrev Qf(d k x:Nat):dj:=⟨some d,.fI k (.t x),none⟩
abbrev Ql(d x:Nat):dj:=⟨some d,.load false 1 (.t x),none⟩
abbrev QL(d k x:Nat):dj:=⟨some d,.load true k (.t x),none⟩
abbrev Qs(k a x:Nat):dj:=⟨none,.store k (.t a) (.t x),none⟩
abbrev Qb(d:Nat)(b:Bool):dj:=⟨some d,.mv (.k (.bool b)),none⟩
abbrev Qi(d:Nat)(n:Int):dj:=⟨some d,.mv (.k (.int .i64 n)),none⟩
abbrev Qx(d i x:Nat):dj:=⟨some d,.ext i (.t x),none⟩
abbrev Qa(d k x i:Nat):dj:=⟨some d,.dB k (.t x) (.t i),none⟩
abbrev Qv(d x:Nat):dj:=⟨some d,.box (.t x),none⟩
inductive C where
 |skip
 |aD (ops:List dj) (kt ko:List Nat)
 |gC (ops:List dj) (anc:List (List Nat)) (kt ko:List Nat)
 |seq (a b:C)
 |cond (c:O) (a b:C)
 |block (id:Nat) (a:C)
 |loop (a:C)
 |exit (id:Nat)
 |ret
 |shut (ids:List Nat) (a:C)
 deriving Inhabited
inductive R where
 |tmp (t:Nat)
 |cell (t:Nat) (agg:Bool) (n:Nat)
structure Fn where
 np:Nat
 body:C
 res:List R
def T.scalar:T→Bool
 | .int .. =>true
 | .bool _=>true
 | .str _=>true
 |_=>false
def wr(o:List (Nat×Ob)):T→List Nat
 | .row id _ _ _=>match get o id with|some b=>if b.w then [id] else []|none=>[]
 | .ptr id _ _ _=>match get o id with|some b=>if b.w then [id] else []|none=>[]
 | .fn _ caps=>caps.flatMap fun
   | .ptr id _ _ _=>match get o id with|some b=>if b.w then [id] else []|none=>[]
   |_=>[]
 |_=>[]
def fN(o:List (Nat×Ob)):T→Option T
 | .int k n=>some (.int k n)
 | .bool b=>some (.bool b)
 | .str s=>some (.str s)
 | .dm sz=>some (.sl false sz [])
 | .sl _ sz rows=>some (.sl false sz rows)
 | .row id aw off len=>
   match get o id with
   |some b=>if b.aw=aw∧b.bx=false∧off+len≤b.rows.length then some (.sl false b.sz ((b.rows.drop off).take len)) else none
   |none=>none
 | .vp cells j=>some (.vp cells j)
 |_=>none
def nM(o:List (Nat×Ob)):T→List Nat
 | .ptr id aw i j=>(match get o id with|some b=>(match b.rows[i]? with|some r=>r.flatMap (wr o)|none=>[])|none=>[])++wr o (.ptr id aw i j)
 |t=>wr o t
def pq(o:List (Nat×Ob)):T→Option T
 | .ptr id aw i j=>
   match get o id with
   |some b=>if b.aw=aw then(match b.rows[i]? with|some r=>(bB (fN o) r).map fun cells=> .vp cells j|none=>none) else none
   |none=>none
 |t=>fN o t
def im(o:List (Nat×Ob)):T→Option T
 | .fn f caps=>(bB (pq o) caps).map fun cs=> .fn f cs
 |t=>pq o t
def mM(o:List (Nat×Ob)):T→List Nat
 | .fn _ caps=>caps.flatMap (nM o)
 |t=>nM o t
def cl(o:List (Nat×Ob))(t:T):Option T:=match t with
 | .ptr .. =>none
 | .vp .. =>none
 | .fn .. =>none
 |t=>if(wr o t).isEmpty then fN o t else none
def V.cells:V→Option (List T)
 | .c t=>some [t]
 | .a ts=>some ts
 |_=>none
def V.im(o:List (Nat×Ob)):V→Option V
 | .c t=>(Mx.im o t).map .c
 | .a ts=>(bB (Mx.im o) ts).map .a
 |_=>none
def V.wr(o:List (Nat×Ob)):V→List Nat
 | .c t=>mM o t
 | .a ts=>ts.flatMap (mM o)
 |_=>[]
def look(t:List (Nat×V)):O→Option V
 | .t n=>get t n
 | .k v=>some (.c v)
 | .fn f=>some (.c (.fn f []))
def bK(t:List (Nat×V))(x:O):Option T:=match look t x with|some (.c v)=>some v|_=>none
def gS(t:List (Nat×V))(x:O):Option (IntKind×Int):=match look t x with|some (.c (.int k n))=>some (k,n)|_=>none
def ei(t:List (Nat×V))(x:O):Option Bool:=match look t x with|some (.c (.bool b))=>some b|_=>none
def dP(t:List (Nat×V))(x:O):Option Nat:=match look t x with|some (.c (.int _ n))=>if 0≤n then some n.toNat else none|_=>none
def iV(t:List (Nat×V))(x:O):Option (List T):=match look t x with|some (.a ts)=>some ts|_=>none
def en(t:List (Nat×V))(x:O):Option (List T):=match look t x with|some v=>v.cells|none=>none
def oT(k:IntKind)(x y:Int):Int:=k.wrap (BitVec.ofInt k.bits x&&&BitVec.ofInt k.bits y).toNat
def sM(k:IntKind)(x y:Int):Int:=k.wrap (BitVec.ofInt k.bits x|||BitVec.ofInt k.bits y).toNat
def rQ(k:IntKind)(x y:Int):Int:=k.wrap (BitVec.ofInt k.bits x^^^BitVec.ofInt k.bits y).toNat
def lP(op:BinOp)(k:IntKind)(x y:Int):Option T:=
 match op with
 | .add=>some (.int k (k.wrap (x+y)))
 | .sub=>some (.int k (k.wrap (x-y)))
 | .mul=>some (.int k (k.wrap (x*y)))
 | .quo=>if y=0 then none else some (.int k (k.wrap (x.tdiv y)))
 | .rem=>if y=0 then none else some (.int k (x.tmod y))
 | .and=>some (.int k (oT k x y))
 | .or=>some (.int k (sM k x y))
 | .xor=>some (.int k (rQ k x y))
 | .eql=>some (.bool (decide (x=y)))
 | .neq=>some (.bool (!decide (x=y)))
 | .lss=>some (.bool (decide (x<y)))
 | .leq=>some (.bool (decide (x≤y)))
 | .gtr=>some (.bool (decide (x>y)))
 | .geq=>some (.bool (decide (x≥y)))
 |_=>none
def iL(op:BinOp)(k:IntKind)(x y:Int):Option T:=
 if y<0 then none else
 match op with
 | .shl=>some (.int k (k.wrap (x*((2^(Min.min y.toNat k.bits):Nat):Int))))
 | .shr=>some (.int k (x.fdiv ((2^(Min.min y.toNat k.bits):Nat):Int)))
 |_=>none
def dC:List UInt8→List UInt8→Bool
 |_,[]=>false
 |[],_::_=>true
 |a::x,b::y=>a<b||(a==b&&dC x y)
def cq(op:BinOp)(x y:ByteArray):Option T:=
 match op with
 | .add=>if x.size+y.size≤4611686018427387904 then some (.str (x++y)) else none
 | .eql=>some (.bool (x.toList==y.toList))
 | .neq=>some (.bool !(x.toList==y.toList))
 | .lss=>some (.bool (dC x.toList y.toList))
 | .leq=>some (.bool (dC x.toList y.toList||x.toList==y.toList))
 | .gtr=>some (.bool !(dC x.toList y.toList||x.toList==y.toList))
 | .geq=>some (.bool !(dC x.toList y.toList))
 |_=>none
def ik:BinOp→Bool
 | .shl=>true
 | .shr=>true
 |_=>false
def bin(op:BinOp)(x y:T):Option T:=
 match x,y with
 | .int k a,.int k' b=>if ik op then iL op k a b else if k=k' then lP op k a b else none
 | .str a,.str b=>cq op a b
 |_,_=>none
def rN:Kc→T→T→Option Bool
 | .int,.int k a,.int k' b=>if k=k' then some (decide (a=b)) else none
 | .str,.str a,.str b=>some (decide (a.toList=b.toList))
 | .bool,.bool a,.bool b=>some (a==b)
 |_,_,_=>none
def jK:List Kc→List T→List T→Option Bool
 |[],[],[]=>some true
 |k::ks,x::xs,y::ys=>match rN k x y with|some b=>(match jK ks xs ys with|some c=>some (b&&c)|none=>none)|none=>none
 |_,_,_=>none
def max2:T→T→Option T
 | .int k x,.int k' y=>if k=k' then some (.int k (if y>x then y else x)) else none
 | .str x,.str y=>some (.str (if dC x.toList y.toList then y else x))
 |_,_=>none
def min2:T→T→Option T
 | .int k x,.int k' y=>if k=k' then some (.int k (if y<x then y else x)) else none
 |_,_=>none
def cG(s:ByteArray):List (List T):=s.data.toList.map fun b=>[T.int .u8 b.toNat]
def dk(rows:List (List T)):Option (List UInt8):=bB (fun (r:List T)=>match r with
 |[.int .u8 n]=>some (UInt8.ofNat n.toNat)
 |_=>none) rows
def rowsOf(o:List (Nat×Ob)):T→Option (List (List T))
 | .dm _=>some []
 | .sl _ _ rows=>some rows
 | .row id aw off len=>
   match get o id with
   |some b=>if b.aw=aw∧b.bx=false∧off+len≤b.rows.length then some ((b.rows.drop off).take len) else none
   |none=>none
 |_=>none
def fY(o:List (Nat×Ob)):T→Option Nat
 | .sl _ sz _=>some sz
 | .row id _ _ _=>(get o id).map (·.sz)
 | .dm sz=>some sz
 |_=>none
def gO(o:List (Nat×Ob))(sz:Nat):T→Option (List (List T))
 | .str s=>if sz=1 then some (cG s) else none
 |y=>match rowsOf o y with
  |some ys=>if ys.isEmpty=true∨fY o y=some sz then some ys else none
  |none=>none
def lenOf:T→Option Nat
 | .dm _=>some 0
 | .sl _ _ rows=>some rows.length
 | .row _ _ _ len=>some len
 |_=>none
def place(o:List (Nat×Ob)):T→Option (List T×Nat)
 | .ptr id aw i j=>
   match get o id with
   |some b=>if b.aw=aw then(match b.rows[i]? with|some r=>some (r,j)|none=>none) else none
   |none=>none
 | .vp cells j=>some (cells,j)
 |_=>none
def setAt(r:List T)(j:Nat)(xs:List T):List T:=r.take j++xs++r.drop (j+xs.length)
def jZ:List (Nat×List T)→List T→List T
 |[],r=>r
 |(j,xs)::l,r=>jZ l (setAt r j xs)
abbrev ay:=Nat→List V→List (Nat×Ob)→Option (V×List (Nat×Ob))
abbrev po:=Option (V×List (Nat×Ob))
def cW(o:List (Nat×Ob))(p:Nat):V→Option (V×Nat×Ob)
 | .c (.ptr id aw 0 0)=>
   match get o id with
   |some b=>if b.aw=aw∧b.w=true∧b.bx=true then(bB (fun r=>bB (cl o) r) b.rows).map fun rows=>(.c (.ptr p p 0 0),id,{b with aw:=p,rows:=rows}) else none
   |none=>none
 | .c (.row id aw 0 len)=>
   match get o id with
   |some b=>if b.aw=aw∧b.w=true∧b.bx=false∧len≤b.rows.length then some (.c (.row p p 0 len),id,{b with aw:=p}) else none
   |none=>none
 |_=>none
def eA:T→Bool
 | .int .. =>true
 | .bool _=>true
 | .str _=>true
 | .sl true _ rows=>rows.all fun r=>r.all T.scalar
 | .row .. =>true
 |_=>false
def V.flat:V→Bool
 | .c t=>eA t
 | .a ts=>ts.all eA
 | .fW vs=>vs.all fun| .c t=>eA t| .a ts=>ts.all eA|_=>false
 | .undef=>false
def eD(n:Nat)(lent:List (Nat×Nat×Nat))(thaw:List (Nat×Nat))(q:Nat):T→Option (T×List (Nat×Ob))
 | .int k x=>some (.int k x,[])
 | .bool b=>some (.bool b,[])
 | .str s=>some (.str s,[])
 | .sl own sz rows=>
   match get thaw q with
   |some id=>if own then some (.row id (n+q) 0 rows.length,[(id,{aw:=n+q,sz:=sz,w:=true,bx:=false,rows:=rows})]) else none
   |none=>some (.sl false sz rows,[])
 | .row p _ off len=>match get lent p with|some (id,aw)=>some (.row id aw off len,[])|none=>none
 | .vp cells _=>
   match get thaw q with
   |some id=>some (.ptr id (n+q) 0 0,[(id,{aw:=n+q,sz:=cells.length,w:=true,bx:=true,rows:=[cells]})])
   |none=>none
 |_=>none
def gu(n:Nat)(lent:List (Nat×Nat×Nat))(thaw:List (Nat×Nat)):Nat→List T→Option (List T×List (Nat×Ob))
 |_,[]=>some ([],[])
 |q,t::ts=>
  match eD n lent thaw q t with
  |some (t',bf)=>(match gu n lent thaw (q+1) ts with|some (ts',ups')=>some (t'::ts',bf++ups')|none=>none)
  |none=>none
def fo(n:Nat)(lent:List (Nat×Nat×Nat))(thaw:List (Nat×Nat))(q:Nat):V→Option (V×List (Nat×Ob)×Nat)
 | .c t=>match eD n lent thaw q t with|some (t',bf)=>some (.c t',bf,q+1)|none=>none
 | .a ts=>match gu n lent thaw q ts with|some (ts',bf)=>some (.a ts',bf,q+ts.length)|none=>none
 |_=>none
def eU(n:Nat)(lent:List (Nat×Nat×Nat))(thaw:List (Nat×Nat)):Nat→List V→Option (List V×List (Nat×Ob))
 |_,[]=>some ([],[])
 |q,v::vs=>
  match fo n lent thaw q v with
  |some (v',bf,q')=>(match eU n lent thaw q' vs with|some (vs',ups')=>some (v'::vs',bf++ups')|none=>none)
  |none=>none
def back(n:Nat)(lent:List (Nat×Nat×Nat))(thaw:List (Nat×Nat)):V→Option (V×List (Nat×Ob))
 | .fW vs=>(eU n lent thaw 0 vs).map fun r=>(.fW r.1,r.2)
 |v=>(fo n lent thaw 0 v).map fun r=>(r.1,r.2.1)
def eo(o:List (Nat×Ob))(lend:List Nat):Nat→List T→Option (List T×List (Nat×Nat×Ob)×List Nat)
 |_,[]=>some ([],[],[])
 |k,t::ts=>
  match eo o lend (k+1) ts with
  |none=>none
  |some (ts',ls,b)=>
   if k∈lend then(match cW o k (.c t) with|some (.c t',id,ob)=>some (t'::ts',(k,id,ob)::ls,b)|_=>none)
   else(match im o t with|some t'=>some (t'::ts',ls,mM o t++b)|none=>none)
def dn(np id:Nat):Bool:=decide (id<np)||decide (1000000≤id)
def lM(lend:List Nat)(p:Nat):Bool:=lend.any fun k=>decide (1000000+64*p≤k)&&decide (k<1000000+64*(p+1))
def args(o:List (Nat×Ob))(lend:List Nat):Nat→List V→Option (List V×List (Nat×Nat×Ob)×List Nat)
 |_,[]=>some ([],[],[])
 |p,v::vs=>
  match args o lend (p+1) vs with
  |none=>none
  |some (as,ls,b)=>
   if p∈lend then(match cW o p v with|some (v',id,ob)=>some (v'::as,(p,id,ob)::ls,b)|none=>none)
   else if lM lend p then(match v with
    | .a ts=>if ts.length≤64 then(match eo o lend (1000000+64*p) ts with|some (ts',ls',b')=>some (.a ts'::as,ls'++ls,b'++b)|none=>none) else none
    |_=>none)
   else(match v.im o with|some v'=>some (v'::as,ls,v.wr o++b)|none=>none)
def eV(n:Nat)(b:Ob):Option Ob→Ob
 |some b'=>{b with rows:=b'.rows}
 |none=>{aw:=n+15,sz:=b.sz,w:=true,bx:=false,rows:=[]}
def cE(n:Nat)(o:List (Nat×Ob))(after:List (Nat×Ob)):List (Nat×Nat×Ob)→Option (List (Nat×Ob))
 |[]=>some []
 |(p,id,_)::ls=>
  match get o id,cE n o after ls with
  |some b,some l=>some ((id,eV n b (get after p))::l)
  |_,_=>none
def bS(cf:ay)(n:Nat)(o:List (Nat×Ob))(f:Nat)(vals:List V)(lend:List Nat)(thaw:List (Nat×Nat)):po:=
 match args o lend 0 vals with
 |none=>none
 |some (as,ls,b)=>
  if vals.length≤1000∧(ls.map (·.2.1)).all (fun id=> !b.contains id)∧(ls.map (·.2.1)).Nodup then
   match cf f as (ls.map fun l=>(l.1,l.2.2)) with
   |none=>none
   |some (res,after)=>
    match cE n o after ls,back n (ls.map fun l=>(l.1,l.2.1,(get o l.2.1).elim 0 (·.aw))) thaw res with
    |some bf,some (v,ups')=>if b.isEmpty∨(res.flat∧bf.all fun u=>u.2.rows.all (·.all T.scalar)) then some (v,bf++ups') else none
    |_,_=>none
  else none
def h_(t:List (Nat×V))(d:Nat):Option O→Option Nat
 |none=>some d
 |some x=>dP t x
def act(cf:ay)(n d:Nat)(t:List (Nat×V))(o:List (Nat×Ob)):MO→po
 | .mv x=>(look t x).map fun v=>(v,[])
 | .np=>some (.undef,[])
 | .nil sz=>some (.c (.row d n 0 0),[(d,{aw:=n,sz:=sz,w:=true,bx:=false,rows:=[]})])
 | .pick c a b=>match ei t c with|some c=>(look t (if c then a else b)).map fun v=>(v,[])|none=>none
 | .alloc zero=>some (.c (.ptr d n 0 0),[(d,{aw:=n,sz:=zero.length,w:=true,bx:=true,rows:=[zero]})])
 | .box x=>(en t x).map fun cs=>(.c (.ptr d n 0 0),[(d,{aw:=n,sz:=cs.length,w:=true,bx:=true,rows:=[cs]})])
 | .build zero parts=>
   (bB (fun (p:Nat×Nat×O)=>match en t p.2.2 with|some cs=>if cs.length=p.2.1∧p.1+p.2.1≤zero.length then some (p.1,cs) else none|none=>none) parts).map fun ps=>(.a (jZ ps zero),[])
 | .cd sz len zero parts=>
   (bB (fun (p:Nat×O)=>match en t p.2 with|some cs=>if cs.length=sz∧p.1<len then(bB (cl o) cs).map fun cs=>(p.1,cs) else none|none=>none) parts).map fun ps=>
   (.c (.row d n 0 len),[(d,{aw:=n,sz:=sz,w:=true,bx:=false,rows:=ps.foldl (fun rs p=>rs.set p.1 p.2) (List.replicate len zero)})])
 | .ie sz len zero parts=>
   (bB (fun (p:Nat×O)=>match en t p.2 with|some cs=>if cs.length=sz∧p.1<len then(bB (cl o) cs).map fun cs=>(p.1,cs) else none|none=>none) parts).map fun ps=>
   (.c (.row d n 0 len),[(d,{aw:=n,sz:=sz,w:=false,bx:=false,rows:=ps.foldl (fun rs p=>rs.set p.1 p.2) (List.replicate len zero)})])
 | .load agg k a=>
   match bK t a with
   |none=>none
   |some a=>
    match place o a with
    |none=>none
    |some (r,j)=>
     if agg then(if j+k≤r.length then some (.a ((r.drop j).take k),[]) else none)
     else(r[j]?).map fun c=>(.c c,[])
 | .store k a x=>
   match bK t a,en t x with
   |some (.ptr id aw i j),some cs=>
    match get o id with
    |some b=>
     if b.aw=aw∧b.w=true∧cs.length=k then
     match b.rows[i]?,(if b.bx then some cs else bB (cl o) cs) with
     |some r,some cs=>if j+cs.length≤r.length then some (.undef,[(id,{b with rows:=b.rows.set i (setAt r j cs)})]) else none
     |_,_=>none
     else none
    |none=>none
   |_,_=>none
 | .bin op x y=>match bK t x,bK t y with|some x,some y=>(bin op x y).map fun v=>(.c v,[])|_,_=>none
 | .eqs neg ks x y=>match iV t x,iV t y with|some x,some y=>(jK ks x y).map fun b=>(.c (.bool (if neg then !b else b)),[])|_,_=>none
 | .beq neg x y=>match ei t x,ei t y with|some x,some y=>some (.c (.bool (if neg then !(x==y) else x==y)),[])|_,_=>none
 | .not x=>(ei t x).map fun b=>(.c (.bool !b),[])
 | .neg x=>(gS t x).map fun k=>(.c (.int k.1 (k.1.wrap (0-k.2))),[])
 | .lQ k x=>(gS t x).map fun m=>(.c (.int k (k.wrap m.2)),[])
 | .qV x=>match bK t x with|some x=>(match rowsOf o x with|some rows=>if rows.isEmpty∨fY o x=some 1 then(dk rows).map fun bs=>(.c (.str ⟨bs.toArray⟩),[]) else none|none=>none)|none=>none
 | .rI sz bytes zero x=>match dP t x with
   |some l=>if l≤4294967296∧bytes*l≤140737488355328 then some (.c (.row d n 0 l),[(d,{aw:=n,sz:=sz,w:=true,bx:=false,rows:=List.replicate l zero})]) else none
   |none=>none
 | .rJ sz bytes zero x y=>match dP t x,dP t y with
   |some l,some m=>if l≤m∧m≤4294967296∧bytes*m≤140737488355328 then some (.c (.row d n 0 l),[(d,{aw:=n,sz:=sz,w:=true,bx:=false,rows:=List.replicate l zero})]) else none
   |_,_=>none
 | .iI x lo hi=>
   match bK t x with
   |some (.str s)=>(match h_ t 0 lo,h_ t s.size hi with
    |some l,some h=>if l≤h∧h≤s.size then some (.c (.str (s.extract l h)),[]) else none
    |_,_=>none)
   |_=>none
 | .qO size x lo hi mx=>
   match bK t x with
   |some x=>
    (match lenOf x with
    |some len=>
     (match h_ t 0 lo,h_ t len hi,h_ t len mx with
     |some l,some h,some m=>
      if l≤h∧h≤m∧m≤len then
      if mx.isSome then some (.undef,[]) else
      (match x with
      | .dm sz=>some (.c (.dm sz),[])
      | .sl _ sz rows=>if sz=size then some (.c (.sl false sz ((rows.drop l).take (h-l))),[]) else none
      | .row id aw off _=>match get o id with
        |some b=>if b.aw=aw∧b.bx=false∧b.sz=size then(if l=h∧off+l≠0 then some (.c (.sl false b.sz []),[]) else some (.c (.row id aw (off+l) (h-l)),[])) else none
        |none=>none
      |_=>none)
      else none
     |_,_,_=>none)
    |none=>none)
   |none=>none
 | .fI off a=>
   match bK t a with
   |some (.ptr id aw i j)=>some (.c (.ptr id aw i (j+off)),[])
   |some (.vp cells j)=>some (.c (.vp cells (j+off)),[])
   |_=>none
 | .dB sz x ix=>
   match bK t x,dP t ix with
   |some (.row id aw off len),some i=>(match get o id with
    |some b=>if b.aw=aw∧b.sz=sz∧b.bx=false∧i<len then some (.c (.ptr id aw (off+i) 0),[]) else none
    |none=>none)
   |some (.sl _ sz' rows),some i=>if sz'=sz then(rows[i]?).map fun r=>(.c (.vp r 0),[]) else none
   |_,_=>none
 | .idx x ix=>
   match bK t x,dP t ix with
   |some (.str s),some i=>if h:i<s.size then some (.c (.int .u8 (s[i]'h).toNat),[]) else none
   |_,_=>none
 | .p5 agg off k x=>
   match look t x with
   |some (.a cs)=>if agg then(if off+k≤cs.length then some (.a ((cs.drop off).take k),[]) else none) else(cs[off]?).map fun c=>(.c c,[])
   |_=>none
 | .ext i x=>match look t x with|some (.fW vs)=>(vs[i]?).map fun v=>(v,[])|_=>none
 | .len x=>match bK t x with|some x=>(lenOf x).map fun (m:Nat)=>(.c (.int .i64 (m:Int)),[])|none=>none
 | .fC x=>match bK t x with|some (.str s)=>some (.c (.int .i64 (s.size:Int)),[])|_=>none
 | .app sz bytes x y=>
   match bK t x,bK t y with
   |some x,some y=>
    match gO o sz y with
    |none=>none
    |some ys=>
     if bytes≤4096 then
     match x with
     | .dm _=>if ys.length≤4294967296 then some (.c (.row d n 0 ys.length),[(d,{aw:=n,sz:=sz,w:=true,bx:=false,rows:=ys})]) else none
     | .row id aw 0 len=>
       (match get o id with
       |some b=>if b.aw=aw∧b.w=true∧b.bx=false∧b.sz=sz∧len≤b.rows.length∧len+ys.length≤4294967296 then
        some (.c (.row id n 0 (len+ys.length)),[(id,{b with aw:=n,rows:=b.rows.take len++ys})]) else none
       |none=>none)
     |_=>none
     else none
   |_,_=>none
 | .lf sz bytes x y=>
   match bK t x,bK t y with
   |some (.row id aw 0 len),some y=>
    (match gO o sz y,get o id with
    |some ys,some b=>if bytes≤4096∧b.aw=aw∧b.w=true∧b.bx=false∧b.sz=sz∧len+ys.length≤b.rows.length∧len+ys.length≤4294967296 then
     some (.c (.row id aw 0 (len+ys.length)),[(id,{b with rows:=b.rows.take len++ys++b.rows.drop (len+ys.length)})]) else none
    |_,_=>none)
   |_,_=>none
 | .kG size x lo hi=>
   match bK t x with
   |some (.row id aw off len)=>
    (match get o id,h_ t 0 lo,h_ t len hi with
    |some b,some l,some h=>if b.aw=aw∧b.bx=false∧b.sz=size∧l≤h∧off+h≤b.rows.length then(if l=h∧off+l≠0 then some (.c (.sl false b.sz []),[]) else some (.c (.row id aw (off+l) (h-l)),[])) else none
    |_,_,_=>none)
   |_=>none
 | .qU zero x=>
   match bK t x with
   |some (.dm _)=>some (.undef,[])
   |some (.sl _ _ [])=>some (.undef,[])
   |some (.row id aw off len)=>(match get o id with
    |some b=>if len=0 then some (.undef,[]) else if b.aw=aw∧b.w=true∧b.bx=false∧b.sz=zero.length∧off+len≤b.rows.length then
     some (.undef,[(id,{b with rows:=b.rows.take off++List.replicate len zero++b.rows.drop (off+len)})]) else none
    |none=>none)
   |_=>none
 | .max x y=>match bK t x,bK t y with|some x,some y=>(max2 x y).map fun v=>(.c v,[])|_,_=>none
 | .min x y=>match bK t x,bK t y with|some x,some y=>(min2 x y).map fun v=>(.c v,[])|_,_=>none
 | .call f as lend thaw=>match bB (look t) as with|some vals=>bS cf n o f vals lend thaw|none=>none
 | .hJ x as=>match bK t x,bB (look t) as with
   |some (.fn f caps),some vals=>bS cf n o f (vals++caps.map .c) [] []
   |_,_=>none
 | .lL f caps=>(bB (bK t) caps).map fun cs=>(.c (.fn f cs),[])
 | .fD x=>match bK t x with
   |some (.ptr a b c e)=>some (.c (.ptr a b c e),[])
   |some (.vp a b)=>some (.c (.vp a b),[])
   |some (.fn a b)=>some (.c (.fn a b),[])
   |_=>none
def wanted(t:List (Nat×V)):Option (Nat×Bool)→Option Bool
 |none=>some true
 |some (g,b)=>match get t g with|some (.c (.bool v))=>some (v==b)|some .undef=>some false|_=>none
def dw(t:List (Nat×V))(d:Option Nat)(v:V):List (Nat×V):=match d with|some d=>(d,v)::t|none=>t
def step(cf:ay)(n i:Nat)(m:dj)(t:List (Nat×V))(o:List (Nat×Ob)):Option (List (Nat×V)×List (Nat×Ob)):=
 match wanted t m.guard with
 |some true=>(act cf (n+16*i) (m.dst.getD 0) t o m.op).map fun r=>(dw t m.dst r.1,r.2++o)
 |some false=>some (dw t m.dst .undef,o)
 |none=>none
def steps(cf:ay)(n:Nat):Nat→List dj→List (Nat×V)→List (Nat×Ob)→Option (List (Nat×V)×List (Nat×Ob))
 |_,[],t,o=>some (t,o)
 |i,m::ms,t,o=>match step cf n i m t o with|some (t',o')=>steps cf n (i+1) ms t' o'|none=>none
def O.tmps:O→List Nat
 | .t n=>[n]
 |_=>[]
def gg:Option O→List Nat
 |some x=>x.tmps
 |none=>[]
def MO.tmps:MO→List Nat
 | .mv x=>x.tmps
 | .np=>[]
 | .nil _=>[]
 | .pick c a b=>c.tmps++a.tmps++b.tmps
 | .alloc _=>[]
 | .box x=>x.tmps
 | .build _ parts=>parts.flatMap fun p=>p.2.2.tmps
 | .cd _ _ _ parts=>parts.flatMap fun p=>p.2.tmps
 | .ie _ _ _ parts=>parts.flatMap fun p=>p.2.tmps
 | .load _ _ a=>a.tmps
 | .store _ a x=>a.tmps++x.tmps
 | .beq _ x y=>x.tmps++y.tmps
 | .bin _ x y=>x.tmps++y.tmps
 | .eqs _ _ x y=>x.tmps++y.tmps
 | .not x=>x.tmps
 | .neg x=>x.tmps
 | .lQ _ x=>x.tmps
 | .qV x=>x.tmps
 | .rI _ _ _ x=>x.tmps
 | .rJ _ _ _ x y=>x.tmps++y.tmps
 | .iI x lo hi=>x.tmps++gg lo++gg hi
 | .qO _ x lo hi mx=>x.tmps++gg lo++gg hi++gg mx
 | .fI _ a=>a.tmps
 | .dB _ x ix=>x.tmps++ix.tmps
 | .idx x ix=>x.tmps++ix.tmps
 | .p5 _ _ _ x=>x.tmps
 | .ext _ x=>x.tmps
 | .len x=>x.tmps
 | .fC x=>x.tmps
 | .app _ _ x y=>x.tmps++y.tmps
 | .lf _ _ x y=>x.tmps++y.tmps
 | .kG _ x lo hi=>x.tmps++gg lo++gg hi
 | .qU _ x=>x.tmps
 | .max x y=>x.tmps++y.tmps
 | .min x y=>x.tmps++y.tmps
 | .call _ args _ _=>args.flatMap O.tmps
 | .hJ f args=>f.tmps++args.flatMap O.tmps
 | .lL _ caps=>caps.flatMap O.tmps
 | .fD x=>x.tmps
def ev:T→List Nat
 | .row id _ _ _=>[id]
 | .ptr id _ _ _=>[id]
 | .fn _ caps=>caps.flatMap fun
   | .row id _ _ _=>[id]
   | .ptr id _ _ _=>[id]
   |_=>[]
 |_=>[]
def gI(o:List (Nat×Ob))(id:Nat):List Nat:=match get o id with
 |some b=>if b.bx then b.rows.flatMap fun r=>r.flatMap ev else []
 |none=>[]
def gj(o:List (Nat×Ob)):V→List Nat
 | .c t=>ev t++(ev t).flatMap (gI o)
 | .a ts=>ts.flatMap fun t=>ev t++(ev t).flatMap (gI o)
 |_=>[]
def MO.lS:MO→List Nat
 | .mv _=>[]
 |m=>m.tmps
def dh(t:List (Nat×V))(o:List (Nat×Ob))(m:MO):List Nat:=m.lS.flatMap fun x=>match get t x with|some v=>gj o v|none=>[]
structure dz where
 dst:Option Nat
 v:V
 bf:List (Nat×Ob)
 T:List Nat
def dz.W(e:dz):List Nat:=e.bf.map (·.1)
def dz.apart(e f:dz):Bool:=e.W.all (fun x=> !f.T.contains x&& !f.W.contains x)&&f.W.all (fun x=> !e.T.contains x)
def di(cf:ay)(n i:Nat)(m:dj)(t:List (Nat×V))(o:List (Nat×Ob)):Option dz:=
 match wanted t m.guard with
 |some true=>(act cf (n+16*i) (m.dst.getD 0) t (keep (dh t o m.op) o) m.op).map fun r=>⟨m.dst,r.1,r.2,dh t o m.op⟩
 |some false=>some ⟨m.dst,.undef,[],[]⟩
 |none=>none
def bR(cf:ay)(n:Nat):Nat→List dj→List (List Nat)→List (Nat×V)→List (Nat×Ob)→List (Nat×dz)→Option (List (Nat×V)×List (Nat×Ob))
 |_,[],_,t,o,_=>some (t,o)
 |i,m::ms,a::as,t,o,acc=>
  match di cf n i m t o with
  |some e=>if acc.all (fun x=>a.contains x.1||e.apart x.2) then bR cf n (i+1) ms as (dw t e.dst e.v) (e.bf++o) ((i,e)::acc) else none
  |none=>none
 |_,_::_,[],_,_,_=>none
inductive Out where
 |normal
 |exit (id:Nat)
 |ret
def ca(f:St→Option (Out×St)):Nat→St→Option (Out×St)
 |0,_=>none
 |k+1,s=>match f s with
  |some (.normal,s')=>ca f k s'
  |r=>r
def gB(ids:List Nat)(o:List (Nat×Ob)):List (Nat×Ob):=o.map fun p=>(p.1,if p.1∈ids then {p.2 with w:=false} else p.2)
def bH(cf:ay)(k:Nat):C→St→Option (Out×St)
 | .skip,s=>some (.normal,s)
 | .aD ops kt ko,s=>(steps cf s.n 0 ops s.t s.o).map fun r=>(.normal,{t:=keep kt r.1,o:=keep ko r.2,n:=s.n+16*ops.length})
 | .gC ops anc kt ko,s=>(bR cf s.n 0 ops anc s.t s.o []).map fun r=>(.normal,{t:=keep kt r.1,o:=keep ko r.2,n:=s.n+16*ops.length})
 | .seq a b,s=>match bH cf k a s with|some (.normal,s')=>bH cf k b s'|r=>r
 | .cond c a b,s=>match ei s.t c with|some true=>bH cf k a s|some false=>bH cf k b s|none=>none
 | .block id a,s=>match bH cf k a s with|some (.exit id',s')=>some (if id'=id then(.normal,s') else(.exit id',s'))|r=>r
 | .loop a,s=>ca (bH cf k a) k s
 | .exit id,s=>some (.exit id,s)
 | .ret,s=>some (.ret,s)
 | .shut ids a,s=>bH cf k a {s with o:=gB ids s.o}
def gp(np:Nat)(o:List (Nat×Ob)):T→Option T
 | .int k n=>some (.int k n)
 | .bool b=>some (.bool b)
 | .str s=>some (.str s)
 | .dm sz=>some (.sl true sz [])
 | .sl _ sz rows=>some (.sl false sz rows)
 | .row id aw off len=>
   match get o id with
   |some b=>if b.aw=aw∧b.bx=false∧off+len≤b.rows.length then
    if dn np id then some (.row id aw off len) else
    if b.w∧off=0 then some (.sl true b.sz (b.rows.take len)) else if b.w then none else some (.sl false b.sz ((b.rows.drop off).take len)) else none
   |none=>none
 | .ptr id aw i j=>
   match get o id with
   |some b=>if b.aw=aw∧b.w=true∧b.bx=true∧i=0∧j=0∧dn np id=false then
    (match b.rows with|[r]=>(bB (cl o) r).map fun r'=> .vp r' 0|_=>none) else none
   |none=>none
 |_=>none
def V.fin(np:Nat)(o:List (Nat×Ob)):V→Option V
 | .c t=>(gp np o t).map .c
 | .a ts=>(bB (gp np o) ts).map .a
 |_=>none
def j8(np:Nat)(o:List (Nat×Ob))(v:V):List Nat:=(v.cells.getD []).flatMap fun
 | .row id _ _ _=>if dn np id then [] else(match get o id with|some b=>if b.w then [id] else []|none=>[])
 | .ptr id _ _ _=>if dn np id then [] else(match get o id with|some b=>if b.w then [id] else []|none=>[])
 |_=>[]
def nZ(t:List (Nat×V))(o:List (Nat×Ob)):R→Option V
 | .tmp x=>get t x
 | .cell x agg k=>match get t x with
   |some (.c a)=>(match place o a with
    |some (r,j)=>if agg then(if j+k≤r.length then some (.a ((r.drop j).take k)) else none) else(r[j]?).map .c
    |none=>none)
   |_=>none
def pv:List V→V
 |[v]=>v
 |vs=> .fW vs
def fx(o:List (Nat×Ob)):List (Nat×Ob)→Option (List (Nat×Ob))
 |[]=>some []
 |(p,_)::l=>
  match get o p,fx o l with
  |some b,some l'=>
   if b.aw=p∧b.w=true then
    if b.bx then(bB (fun r=>bB (cl o) r) b.rows).map fun rows=>(p,{b with rows:=rows})::l' else some ((p,b)::l')
   else none
  |_,_=>none
def cX(cf:ay)(k:Nat)(f:Fn)(as:List V)(lent:List (Nat×Ob)):Option (V×List (Nat×Ob)):=
 if as.length=f.np then
  match bH cf k f.body {t:=(List.range f.np).zip as,o:=lent,n:=2000000} with
  |some (.exit _,_)=>none
  |some (_,s)=>
   match bB (nZ s.t s.o) f.res,fx s.o lent with
   |some vs,some after=>if(vs.flatMap (j8 f.np s.o)).Nodup then(bB (V.fin f.np s.o) vs).map fun vs=>(pv vs,after) else none
   |_,_=>none
  |none=>none
 else none
inductive Body where
 |code (f:Fn)
 |ext (g:List V→List (Nat×Ob)→Option (V×List (Nat×Ob)))
def ju(M:Nat→Option Body):Nat→ay
 |0,_,_,_=>none
 |k+1,f,as,lent=>match M f with
  |some (.code b)=>cX (ju M k) k b as lent
  |some (.ext g)=>g as lent
  |none=>none
end Mx
namespace Mx
open Go
inductive Loc where
 |nil
 |cK (b cap sz:Nat)
structure Cx where
 w:World
 U:Nat→Prop
 E:Nat→Option Loc
 F:Nat→FuncId
def bI(b:Nat):Addr:=⟨b,0,none⟩
theorem dr(b n:Nat):(bI b).add n=⟨b,n,none⟩:=by unfold Addr.add bI;split<;>simp_all
theorem bZ(a:Addr)(n:Nat):(a.add n).block=a.block:=by unfold Addr.add;split<;>simp
theorem add_zero(a:Addr):a.add 0=a:=by simp[Addr.add]
theorem add_add(a:Addr)(m n:Nat):(a.add m).add n=a.add (m+n):=by
 unfold Addr.add;by_cases h1:n=0<;>by_cases h2:m=0<;>simp_all<;>omega
inductive a7:T→Prop
 |int (k:IntKind) (n:Int):a7 (.int k n)
 |bool (b:Bool):a7 (.bool b)
 |str (s:ByteArray):a7 (.str s)
 |dm (sz:Nat):a7 (.dm sz)
 |sl (own:Bool) (sz:Nat) (rows:List (List T)) (h:∀(i j:Nat) (r:List T) (t:T),rows[i]? =some r→r[j]? =some t→a7 t):a7 (.sl own sz rows)
 |vp (cells:List T) (j:Nat) (h:∀(q:Nat) (t:T),cells[j+q]? =some t→a7 t):a7 (.vp cells j)
 |fn (f:Nat) (caps:List T) (h:∀(i:Nat) (t:T),caps[i]? =some t→a7 t):a7 (.fn f caps)
inductive bN (X:Cx):T→Value→Prop
 |int (k:IntKind) (n:Int):bN X (.int k n) (.int k n)
 |bool (b:Bool):bN X (.bool b) (.bool b)
 |str (s:ByteArray):bN X (.str s) (.string s)
 |dm (sz:Nat):bN X (.dm sz) (.slice none 0 0)
 |sl (own:Bool) (sz:Nat) (rows:List (List T)) (A:Option Addr) (c:Nat) (vs:Nat→Nat→Value) (hc:rows.length≤c)
   (hsz:∀(i:Nat) (r:List T),rows[i]? =some r→r.length=sz)
   (hcell:∀(i j:Nat) (r:List T) (t:T),rows[i]? =some r→r[j]? =some t→∃ad,A=some ad∧¬X.U ad.block∧X.w.cell? (ad.add (i*sz+j))=some (vs i j))
   (hrep:∀(i j:Nat) (r:List T) (t:T),rows[i]? =some r→r[j]? =some t→bN X t (vs i j))
   (hcl:∀(i j:Nat) (r:List T) (t:T),rows[i]? =some r→r[j]? =some t→a7 t):bN X (.sl own sz rows) (.slice A rows.length c)
 |row (id aw off len cap sz b:Nat) (hE:X.E aw=some (.cK b cap sz)) (hl:off+len≤cap) (ho:0<len∨off=0):
   bN X (.row id aw off len) (.slice (some ((bI b).add (off*sz))) len (cap-off))
 |dE (id aw:Nat) (hE:X.E aw=some .nil):bN X (.row id aw 0 0) (.slice none 0 0)
 |ptr (id aw i j b cap sz:Nat) (hE:X.E aw=some (.cK b cap sz)):bN X (.ptr id aw i j) (.pointer (some ((bI b).add (i*sz+j))))
 |vp (cells:List T) (j:Nat) (ad:Addr) (vs:Nat→Value)
   (hcell:∀(q:Nat) (t:T),cells[j+q]? =some t→¬X.U ad.block∧X.w.cell? (ad.add q)=some (vs q))
   (hrep:∀(q:Nat) (t:T),cells[j+q]? =some t→bN X t (vs q))
   (hcl:∀(q:Nat) (t:T),cells[j+q]? =some t→a7 t):bN X (.vp cells j) (.pointer (some ad))
 |fn (f:Nat) (caps:List T) (cs:Array Value) (hn:caps.length=cs.size)
   (hrep:∀(i:Nat) (t:T) (v:Value),caps[i]? =some t→cs[i]? =some v→bN X t v):bN X (.fn f caps) (.func (.func (X.F f)) #[] cs)
theorem bN.one{X:Cx}{t:T}{v:Value}(h:bN X t v):v.oneCell'=true:=by cases h<;>rfl
theorem bN.cells{X:Cx}{t:T}{v:Value}(h:bN X t v):v.cells= #[v]:=by cases h<;>rfl
structure cV (X X':Cx):Prop where
 F:X'.F=X.F
 E:∀aw l,X.E aw=some l→X'.E aw=some l
 c:∀ad v,¬X.U ad.block→X.w.cell? ad=some v→X'.w.cell? ad=some v∧¬X'.U ad.block
theorem cV.trans{X Y Z:Cx}(h:cV X Y)(k:cV Y Z):cV X Z:=
 ⟨k.F.trans h.F,fun v l q=>k.E v l (h.E v l q),fun ad v hu hc=>k.c ad v (h.c ad v hu hc).2 (h.c ad v hu hc).1⟩
theorem bN.mono{X X':Cx}(K:cV X X'){t:T}{v:Value}(h:bN X t v):bN X' t v:=by
 induction h with
 |int k n=>exact .int k n
 |bool b=>exact .bool b
 |str s=>exact .str s
 |dm sz=>exact .dm sz
 |sl own sz rows A c vs hc hsz hcell hrep hcl ih=>
  refine .sl own sz rows A c vs hc hsz ?_ ih hcl;intro i j r t hr ht;obtain⟨ad,rfl,hu,hw⟩:=hcell i j r t hr ht;have hb:¬X.U (ad.add (i*sz+j)).block:=by rw[bZ];exact hu
  have:=K.c _ _ hb hw;rw[bZ] at this;exact⟨ad,rfl,this.2,this.1⟩
 |row id aw off len cap sz b hE hl ho=>exact .row id aw off len cap sz b (K.E _ _ hE) hl ho
 |dE id aw hE=>exact .dE id aw (K.E _ _ hE)
 |ptr id aw i j b cap sz hE=>exact .ptr id aw i j b cap sz (K.E _ _ hE)
 |vp cells j ad vs hcell hrep hcl ih=>
  refine .vp cells j ad vs ?_ ih hcl;intro q t ht;obtain⟨hu,hw⟩:=hcell q t ht;have hb:¬X.U (ad.add q).block:=by rw[bZ];exact hu
  have:=K.c _ _ hb hw;rw[bZ] at this;exact⟨this.2,this.1⟩
 |fn f caps cs hn hrep ih=>rw[←K.F];exact .fn f caps cs hn ih
inductive bW (X:Cx):V→Value→Prop
 |c (t:T) (v:Value) (h:bN X t v):bW X (.c t) v
 |a (ts:List T) (cs:Array Value) (hn:ts.length=cs.size) (h:∀(i:Nat) (t:T) (v:Value),ts[i]? =some t→cs[i]? =some v→bN X t v):bW X (.a ts) (.agg cs)
 |fW (vs:List V) (xs:Array Value) (hn:vs.length=xs.size) (h:∀(i:Nat) (v:V) (x:Value),vs[i]? =some v→xs[i]? =some x→bW X v x):bW X (.fW vs) (.tuple xs)
 |undef (v:Value) (h:∀b,v≠.bool b):bW X .undef v
theorem bW.mono{X X':Cx}(K:cV X X'){t:V}{v:Value}(h:bW X t v):bW X' t v:=by
 induction h with
 |c t v h=>exact .c t v (h.mono K)
 |a ts cs hn h=>exact .a ts cs hn fun i t v ht hv=>(h i t v ht hv).mono K
 |fW vs xs hn h ih=>exact .fW vs xs hn ih
 |undef v h=>exact .undef v h
def bw(X:Cx)(ts:List T)(cs:List Value):Prop:=ts.length=cs.length∧∀(i:Nat) (t:T) (v:Value),ts[i]? =some t→cs[i]? =some v→bN X t v
theorem bw.mono{X X':Cx}(K:cV X X'){ts:List T}{cs:List Value}(h:bw X ts cs):bw X' ts cs:=⟨h.1,fun i t v ht hv=>(h.2 i t v ht hv).mono K⟩
theorem bw.nil(X:Cx):bw X [] []:=⟨rfl,fun i t v h=>by simp at h⟩
theorem bw.cons{X:Cx}{t:T}{v:Value}{ts:List T}{cs:List Value}(h:bN X t v)(hl:bw X ts cs):bw X (t::ts) (v::cs):=by
 refine⟨by simp[hl.1],fun i a b ha hb=> ?_⟩;cases i with
 |zero=>simp at ha hb;subst ha hb;exact h
 |succ i=>simp at ha hb;exact hl.2 i a b ha hb
theorem bw.iD{X:Cx}{t:T}{ts:List T}{cs:List Value}(h:bw X (t::ts) cs):∃v cs',cs=v::cs'∧bN X t v∧bw X ts cs':=by
 cases cs with
 |nil=>simp[bw] at h
 |cons v cs'=>
  refine⟨v,cs',rfl,h.2 0 t v (by simp) (by simp),by have:=h.1;simpa using this,fun i a b ha hb=>h.2 (i+1) a b (by simpa using ha) (by simpa using hb)⟩
theorem bw.append{X:Cx}{ts us:List T}{cs ds:List Value}(h:bw X ts cs)(k:bw X us ds):bw X (ts++us) (cs++ds):=by
 induction ts generalizing cs with
 |nil=>have:=h.1;cases cs with|nil=>simpa using k|cons=>simp at this
 |cons t ts ih=>
  obtain⟨v,cs',rfl,hv,hl⟩:=h.iD;exact .cons hv (ih hl)
theorem bw.take{X:Cx}{ts:List T}{cs:List Value}(h:bw X ts cs)(n:Nat):bw X (ts.take n) (cs.take n):=by
 refine⟨by simp[h.1],fun i t v ht hv=> ?_⟩;rw[aO] at ht hv;split at ht
 ·rename_i hi;rw[if_pos hi] at hv;exact h.2 i t v ht hv
 ·cases ht
theorem bw.drop{X:Cx}{ts:List T}{cs:List Value}(h:bw X ts cs)(n:Nat):bw X (ts.drop n) (cs.drop n):=by
 refine⟨by simp[h.1],fun i t v ht hv=> ?_⟩;rw[bp] at ht hv;exact h.2 _ t v ht hv
theorem bw.one{X:Cx}{ts:List T}{cs:List Value}(h:bw X ts cs):∀v∈cs,v.oneCell'=true:=by
 intro v hv;obtain⟨i,hi,rfl⟩:=List.mem_iff_getElem.1 hv;have:i<ts.length:=by rw[h.1];exact hi
 exact(h.2 i ts[i] cs[i] (by simp[this]) (by simp[hi])).one
theorem bw.replicate{X:Cx}{ts:List T}{cs:List Value}(h:bw X ts cs)(n:Nat):bw X (List.replicate n ts).flatten (List.replicate n cs).flatten:=by
 induction n with
 |zero=>simp[bw]
 |succ n ih=>simp only[List.replicate_succ,List.flatten_cons];exact h.append ih
theorem bW.cells{X:Cx}{v:V}{x:Value}{ts:List T}(h:bW X v x)(hc:v.cells=some ts):bw X ts x.cells.toList:=by
 cases h with
 |c t v h=>simp[V.cells] at hc;subst hc;rw[h.cells];exact .cons h (.nil X)
 |a ts cs hn h=>simp[V.cells] at hc;subst hc;exact⟨by simpa [Value.cells] using hn,fun i t v ht hv=>h i t v ht (by simpa [Value.cells] using hv)⟩
 |fW=>simp[V.cells] at hc
 |undef=>simp[V.cells] at hc
theorem bW.rH{X:Cx}{ts:List T}{cs:List Value}(h:bw X ts cs):bW X (.a ts) (.agg cs.toArray):=
 .a ts _ (by simpa using h.1) fun i t v ht hv=>h.2 i t v ht (by simpa using hv)
structure gv (X:Cx) (ob:Ob) (b cap:Nat):Prop where
 len:ob.rows.length≤cap
 width:∀(i:Nat) (r:List T),ob.rows[i]? =some r→r.length=ob.sz
 cl:ob.bx=false→∀(i j:Nat) (r:List T) (t:T),ob.rows[i]? =some r→r[j]? =some t→a7 t
 mem:∃cs e fr,X.w.heap[b]? =some (.cells cs e fr)∧cs.size=cap*ob.sz∧(∀o,o≤cs.size→¬(fr.1≤o∧o<fr.2))∧
  ∀(i j:Nat) (r:List T) (t:T),ob.rows[i]? =some r→r[j]? =some t→∃v,cs[i*ob.sz+j]? =some v∧bN X t v
def dy(X:Cx)(ob:Ob):Loc→Prop
 | .nil=>ob.rows=[]∧ob.bx=false
 | .cK b cap sz=>sz=ob.sz∧gv X ob b cap
theorem gv.mono{X X':Cx}(K:cV X X'){ob:Ob}{b cap:Nat}(h:gv X ob b cap)(hb:X'.w.heap[b]? =X.w.heap[b]?):gv X' ob b cap:=by
 obtain⟨hl,hw,hcl,cs,e,fr,h1,h2,h3,h4⟩:=h;refine⟨hl,hw,hcl,cs,e,fr,hb.trans h1,h2,h3,fun i j r t hr ht=> ?_⟩;obtain⟨v,hv,hr⟩:=h4 i j r t hr ht;exact⟨v,hv,hr.mono K⟩
def cx(F:Nat→FuncId)(Pr:Nat→Prop)(E:Nat→Option Loc)(o:List (Nat×Ob))(w:World):Cx:=
 {w:=w,U:=fun b=>(∃id ob cap sz,get o id=some ob∧ob.w=true∧E ob.aw=some (.cK b cap sz))∨Pr b,E:=E,F:=F}
structure Lb where
 b:Nat→Prop
 E:Nat→Option Loc
instance:CoeFun Lb (fun _=>Nat→Prop):=⟨Lb.b⟩
def l_(F:Nat→FuncId)(lb:Nat→Prop)(w:World):Prop:=F 999998=0∨(F 999999<w.heap.size∧¬lb (F 999999)∧∃m,w.cell? ⟨F 999999,0,none⟩=some (.int .i64 m))
theorem nv{w w':World}{b:Nat}(h:w'.heap[b]? =w.heap[b]?):w'.cell? ⟨b,0,none⟩=w.cell? ⟨b,0,none⟩:=by
 simp only[World.cell?,h]
structure Rel (F:Nat→FuncId) (Pr:Nat→Prop) (w0:World) (lb:Lb) (N:Nat) (E:Nat→Option Loc) (n:Nat→Prop) (t:List (Nat×V)) (o:List (Nat×Ob)) (a:Act) (w:World):Prop where
 os:w.os=w0.os
 tape:w.tape=w0.tape
 output:w.output=w0.output
 size:w0.heap.size≤w.heap.size
 frame:∀b,b<w0.heap.size→¬lb b→w.heap[b]? =w0.heap[b]?
 defers:a.defers=[]
 nt:a.tmps.size=N
 tmps:∀d v,get t d=some v→bW (cx F Pr E o w) v (a.tmps.getD d undef)
 dO:∀id ob,get o id=some ob→n ob.aw∧∃l,E ob.aw=some l∧dy (cx F Pr E o w) ob l
 place:∀id ob b cap sz,get o id=some ob→E ob.aw=some (.cK b cap sz)→b<w.heap.size∧(w0.heap.size≤b∨lb b)
 d_:∀id id' ob ob' b cap sz cap' sz',get o id=some ob→get o id'=some ob'→E ob.aw=some (.cK b cap sz)→E ob'.aw=some (.cK b cap' sz')→id=id'
 fresh:∀aw l,E aw=some l→n aw
 pr:(∀b,Pr b→b<w0.heap.size∧¬lb b)∧l_ F lb w0
 ext:∀aw l,lb.E aw=some l→E aw=some l
structure Fr (n:Nat→Prop) (nn:Nat) (n':Nat→Prop):Prop where
 new:∀k,nn≤k→k<nn+16→¬n k
 cU:∀k,n k→n' k
 add:∀k,nn≤k→k<nn+16→n' k
theorem fH{α:Type}(k:Nat)(v:α)(l:List (Nat×α)):get ((k,v)::l) k=some v:=by simp[get]
theorem fm{α:Type}{k x:Nat}(h:x≠k)(v:α)(l:List (Nat×α)):get ((k,v)::l) x=get l x:=by simp[get,h]
theorem jb{α:Type}(ks:List Nat)(l:List (Nat×α)){x:Nat}{v:α}(h:get (keep ks l) x=some v):get l x=some v:=by
 induction ks with
 |nil=>simp[keep,get] at h
 |cons k ks ih=>
  simp only[keep,List.filterMap_cons] at h;cases hk:get l k with
  |none=>simp only[hk,Option.map_none] at h;exact ih h
  |some u=>
   simp only[hk,cp,get] at h;split at h
   ·rename_i e;subst e;exact hk.trans h
   ·exact ih h
theorem get_append{α:Type}(l l':List (Nat×α))(x:Nat):get (l++l') x=(get l x).or (get l' x):=by
 induction l with
 |nil=>simp[get]
 |cons p l ih=>obtain⟨k,v⟩:=p;simp only[List.cons_append,get];split<;>simp[ih]
variable {F:Nat→FuncId} {Pr:Nat→Prop} {w0:World} {lb:Lb} {N:Nat} {E:Nat→Option Loc} {n:Nat→Prop} {t:List (Nat×V)} {o:List (Nat×Ob)} {a:Act} {w:World}
theorem mC{w:World}{ad:Addr}{v:Value}(h:w.cell? ad=some v):ad.block<w.heap.size:=World.block_lt_of_cell? w ad h
theorem eT{w w':World}{ad:Addr}(h:w'.heap[ad.block]? =w.heap[ad.block]?):w'.cell? ad=w.cell? ad:=by simp[World.cell?,h]
theorem ox(a:Act)(d:Nat)(v:Value)(x:Nat)(h:d<a.tmps.size):(a.put (some d) v).tmps.getD x undef=if x=d then v else a.tmps.getD x undef:=by
 simp only[Act.put,aI,Array.getElem?_setIfInBounds];by_cases e:d=x
 ·subst e;simp[h]
 ·have:¬x=d:=fun q=>e q.symm
  simp[e,this]
theorem Rel.put(R:Rel F Pr w0 lb N E n t o a w){dst:Option Nat}{v:V}{val:Value}(hd:∀d,dst=some d→d<N)(hv:bW (cx F Pr E o w) v val):
  Rel F Pr w0 lb N E n (dw t dst v) o (a.put dst val) w:=by
 cases dst with
 |none=>exact R
 |some d=>
  have hdn:=hd d rfl;refine {R with defers:=R.defers,nt:=by simpa [Act.put] using R.nt,tmps:= ?_}
  intro x u hu;rw[ox a d val x (by rw[R.nt];exact hdn)];simp only[dw,get] at hu;split at hu
  ·rename_i e;rw[if_pos e];cases hu;exact hv
  ·rename_i e;rw[if_neg e];exact R.tmps x u hu
theorem Rel.same(R:Rel F Pr w0 lb N E n t o a w){w':World}(hh:w'.heap=w.heap)(h1:w'.os=w.os)(h2:w'.tape=w.tape)(h3:w'.output=w.output){n':Nat→Prop}(hn:∀k,n k→n' k):
  Rel F Pr w0 lb N E n' t o a w':=by
 have K:cV (cx F Pr E o w) (cx F Pr E o w'):=⟨rfl,fun _ _ h=>h,fun ad v hu hc=>⟨by rw[←hc];exact eT (by rw[show (cx F Pr E o w').w=w' from rfl,show (cx F Pr E o w).w=w from rfl,hh]),hu⟩⟩;refine⟨h1.trans R.os,h2.trans R.tape,h3.trans R.output,by rw[hh];exact R.size,fun b hb hl=>by rw[hh];exact R.frame b hb hl,R.defers,R.nt,fun d v hv=>(R.tmps d v hv).mono K, ?_, ?_,R.d_,fun v l h=>hn _ (R.fresh v l h),R.pr,R.ext⟩
 ·intro id ob ho;obtain⟨h,l,hl,hr⟩:=R.dO id ob ho;refine⟨hn _ h,l,hl, ?_⟩;cases l with
  |nil=>exact hr
  |cK b cap sz=>exact⟨hr.1,hr.2.mono K (by rw[show (cx F Pr E o w').w=w' from rfl,show (cx F Pr E o w).w=w from rfl,hh])⟩
 ·intro id ob b cap sz ho he;rw[hh];exact R.place id ob b cap sz ho he
theorem Rel.rT(R:Rel F Pr w0 lb N E n t o a w){w':World}{E':Nat→Option Loc}{n':Nat→Prop}{id:Nat}{ob':Ob}{l':Loc}
  (h1:w'.os=w.os) (h2:w'.tape=w.tape) (h3:w'.output=w.output) (hsz:w.heap.size≤w'.heap.size)
  (hn:∀k,n k→n' k) (hE:∀aw l,E aw=some l→E' aw=some l) (hfresh:∀aw l,E' aw=some l→n' aw)
  (hheap:∀b,b<w.heap.size→(∀ob cap sz,get o id=some ob→ob.w=true→E ob.aw=some (.cK b cap sz)→False)→w'.heap[b]? =w.heap[b]?)
  (hl:E' ob'.aw=some l')
  (hplace:∀b cap sz,l'= .cK b cap sz→b<w'.heap.size∧(w.heap.size≤b∨∃ob cap sz,get o id=some ob∧ob.w=true∧E ob.aw=some (.cK b cap sz)))
  (hrep:cV (cx F Pr E o w) (cx F Pr E' ((id,ob')::o) w')→dy (cx F Pr E' ((id,ob')::o) w') ob' l'):
  Rel F Pr w0 lb N E' n' t ((id,ob')::o) a w'∧cV (cx F Pr E o w) (cx F Pr E' ((id,ob')::o) w'):=by
 have hEq:∀i ob l,get o i=some ob→E' ob.aw=some l→E ob.aw=some l:=by
  intro i ob l ho he;obtain⟨_,l2,hl2,_⟩:=R.dO i ob ho;have:=hE _ _ hl2;rw[he] at this;cases this;exact hl2
 have K:cV (cx F Pr E o w) (cx F Pr E' ((id,ob')::o) w'):=by
  refine⟨rfl,hE,fun ad v hu hc=> ?_⟩;have hlt:ad.block<w.heap.size:=mC hc;have hh:w'.heap[ad.block]? =w.heap[ad.block]? :=hheap _ hlt fun ob cap sz g1 g2 g3=>hu (.inl ⟨id,ob,cap,sz,g1,g2,g3⟩)
  refine⟨(eT hh).trans hc, ?_⟩;rintro (⟨i,ob,cap,sz,g1,g2,g3⟩|hpr);rotate_left
  ·exact hu (.inr hpr)
  simp only[get] at g1;split at g1
  ·cases g1;rw[hl] at g3;cases g3;rcases (hplace _ _ _ rfl).2 with h|⟨ob,cap,sz,q1,q2,q3⟩
   ·omega
   ·exact hu (.inl ⟨id,ob,cap,sz,q1,q2,q3⟩)
  ·exact hu (.inl ⟨i,ob,cap,sz,g1,g2,hEq i ob _ g1 g3⟩)
 refine⟨⟨h1.trans R.os,h2.trans R.tape,h3.trans R.output,Nat.le_trans R.size hsz, ?_,R.defers,R.nt,fun d v hv=>(R.tmps d v hv).mono K, ?_, ?_, ?_,hfresh,R.pr,fun v l h=>hE _ _ (R.ext v l h)⟩,K⟩
 ·intro b hb hlb;refine(hheap b (Nat.lt_of_lt_of_le hb R.size) fun ob cap sz g1 g2 g3=> ?_).trans (R.frame b hb hlb);rcases (R.place id ob b cap sz g1 g3).2 with h|h
  ·omega
  ·exact hlb h
 ·intro i ob hi;simp only[get] at hi;split at hi
  ·cases hi;exact⟨hfresh _ _ hl,l',hl,hrep K⟩
  ·rename_i hne;obtain⟨hv,l,hl2,hr⟩:=R.dO i ob hi;refine⟨hn _ hv,l,hE _ _ hl2, ?_⟩;cases l with
   |nil=>exact hr
   |cK b cap sz=>
    refine⟨hr.1,hr.2.mono K (hheap b (R.place i ob b cap sz hi hl2).1 fun ob2 cap2 sz2 g1 g2 g3=>hne (R.d_ i id ob ob2 b cap sz cap2 sz2 hi g1 hl2 g3))⟩
 ·intro i ob b cap sz hi he;simp only[get] at hi;split at hi
  ·cases hi;rw[hl] at he;cases he;obtain⟨q1,q2⟩:=hplace _ _ _ rfl;refine⟨q1, ?_⟩;rcases q2 with h|⟨ob,cap2,sz2,g1,g2,g3⟩
   ·exact .inl (Nat.le_trans R.size h)
   ·exact(R.place id ob b cap2 sz2 g1 g3).2
  ·obtain⟨q1,q2⟩:=R.place i ob b cap sz hi (hEq i ob _ hi he);exact⟨Nat.lt_of_lt_of_le q1 hsz,q2⟩
 ·have side:∀i ob b cap sz cap' sz',i≠id→get o i=some ob→E' ob.aw=some (.cK b cap sz)→l'= .cK b cap' sz'→False:=by
   intro i ob b cap sz cap' sz' hne hi he hl';have he':=hEq i ob _ hi he;rcases (hplace _ _ _ hl').2 with h|⟨ob2,cap2,sz2,g1,g2,g3⟩
   ·have:=(R.place i ob b cap sz hi he').1;omega
   ·exact hne (R.d_ i id ob ob2 b cap sz cap2 sz2 hi g1 he' g3)
  intro i j ob ob2 b cap sz cap' sz' hi hj he hf;simp only[get] at hi hj;split at hi<;>split at hj
  ·rename_i e1 e2;exact e1.trans e2.symm
  ·rename_i e1 e2;cases hi;rw[hl] at he;exact(side j ob2 b cap' sz' cap sz e2 hj hf (by cases he;rfl)).elim
  ·rename_i e1 e2;cases hj;rw[hl] at hf;exact(side i ob b cap sz cap' sz' e1 hi he (by cases hf;rfl)).elim
  ·exact R.d_ i j ob ob2 b cap sz cap' sz' hi hj (hEq i ob _ hi he) (hEq j ob2 _ hj hf)
theorem Rel.sub(R:Rel F Pr w0 lb N E n t o a w){t':List (Nat×V)}{o':List (Nat×Ob)}(ht:∀d v,get t' d=some v→get t d=some v)
  (ho:∀id ob',get o' id=some ob'→∃ob,get o id=some ob∧ob'.aw=ob.aw∧ob'.sz=ob.sz∧ob'.bx=ob.bx∧ob'.rows=ob.rows∧(ob'.w=true→ob.w=true)):
  Rel F Pr w0 lb N E n t' o' a w:=by
 have K:cV (cx F Pr E o w) (cx F Pr E o' w):=by
  refine⟨rfl,fun _ _ h=>h,fun ad v hu hc=>⟨hc, ?_⟩⟩;rintro (⟨i,ob',cap,sz,g1,g2,g3⟩|hpr)
  ·obtain⟨ob,q1,q2,_,_,_,q3⟩:=ho i ob' g1;exact hu (.inl ⟨i,ob,cap,sz,q1,q3 g2,by rw[←q2];exact g3⟩)
  ·exact hu (.inr hpr)
 refine {R with tmps:=fun d v hv=>(R.tmps d v (ht d v hv)).mono K,dO:= ?_,place:= ?_,d_:= ?_}
 ·intro id ob' h;obtain⟨ob,q1,q2,q3,q4,q5,q6⟩:=ho id ob' h;obtain⟨hv,l,hl,hr⟩:=R.dO id ob q1;refine⟨by rw[q2];exact hv,l,by rw[q2];exact hl, ?_⟩;cases l with
  |nil=>exact⟨by rw[q5];exact hr.1,by rw[q4];exact hr.2⟩
  |cK b cap sz=>
   obtain⟨e,h1,h2,hcl,h3⟩:=hr;refine⟨by rw[q3];exact e, ?_, ?_, ?_, ?_⟩
   ·rw[q5];exact h1
   ·rw[q5,q3];exact h2
   ·rw[q5,q4];exact hcl
   ·obtain⟨cs,e1,fr,m1,m2,m3,m4⟩:=h3;refine⟨cs,e1,fr,m1,by rw[q3];exact m2,m3, ?_⟩;rw[q5,q3];intro i j r t hr ht;obtain⟨v,hv,hrep⟩:=m4 i j r t hr ht;exact⟨v,hv,hrep.mono K⟩
 ·intro id ob' b cap sz h he;obtain⟨ob,q1,q2,_⟩:=ho id ob' h;exact R.place id ob b cap sz q1 (by rw[←q2];exact he)
 ·intro i j ob ob2 b cap sz cap' sz' hi hj he hf;obtain⟨x,q1,q2,_⟩:=ho i ob hi;obtain⟨y,r1,r2,_⟩:=ho j ob2 hj;exact R.d_ i j x y b cap sz cap' sz' q1 r1 (by rw[←q2];exact he) (by rw[←r2];exact hf)
theorem Rel.keep(R:Rel F Pr w0 lb N E n t o a w)(kt ko:List Nat):Rel F Pr w0 lb N E n (keep kt t) (keep ko o) a w:=
 R.sub (fun _ _ h=>jb _ _ h) fun _ ob h=>⟨ob,jb _ _ h,rfl,rfl,rfl,rfl,fun h=>h⟩
theorem ow(ids:List Nat)(o:List (Nat×Ob))(x:Nat):get (gB ids o) x=(get o x).map fun ob=>if x∈ids then {ob with w:=false} else ob:=by
 induction o with
 |nil=>rfl
 |cons p o ih=>
  obtain⟨k,ob⟩:=p;simp only[gB,aY,get] at ih ⊢;split
  ·rename_i e;subst e;rfl
  ·exact ih
theorem Rel.shut(R:Rel F Pr w0 lb N E n t o a w)(ids:List Nat):Rel F Pr w0 lb N E n t (gB ids o) a w:=by
 refine R.sub (fun _ _ h=>h) fun id ob' h=> ?_
 rw[ow] at h;cases hg:get o id with
 |none=>simp[hg] at h
 |some ob=>
  simp only[hg,cp,af] at h;subst h;refine⟨ob,rfl, ?_⟩;split<;>simp
end Mx
namespace Mx
open Go
def rF:T→Value→Bool
 | .int k n,.int k' n'=>k==k'&&n==n'
 | .bool b,.bool b'=>b==b'
 | .str s,.string s'=>s.data.toList==s'.data.toList
 | .dm _,.slice none 0 0=>true
 |_,_=>false
def jV:List T→List Value→Bool
 |[],[]=>true
 |t::ts,v::vs=>rF t v&&jV ts vs
 |_,_=>false
theorem ma{X:Cx}{t:T}{v:Value}(h:rF t v=true):bN X t v:=by
 unfold rF at h;split at h
 ·simp at h;obtain⟨rfl,rfl⟩:=h;exact .int _ _
 ·simp at h;subst h;exact .bool _
 ·rename_i s s';have:s=s':=by
   obtain⟨⟨x⟩⟩:=s;obtain⟨⟨y⟩⟩:=s';simp at h;subst h;rfl
  subst this;exact .str _
 ·exact .dm _
 ·cases h
theorem lv{t:T}{v:Value}(h:rF t v=true):a7 t:=by
 unfold rF at h;split at h
 ·exact .int _ _
 ·exact .bool _
 ·exact .str _
 ·exact .dm _
 ·cases h
theorem gL:∀{ts:List T} {vs:List Value},jV ts vs=true→∀(i:Nat) (t:T),ts[i]? =some t→a7 t
 |[],_,_,i,t,h=>by simp at h
 |t0::ts,v::vs,h,i,t,hi=>by
  simp only[jV,ae] at h;cases i with
  |zero=>simp at hi;subst hi;exact lv h.1
  |succ i=>exact gL h.2 i t (by simpa using hi)
 |_::_,[],h,_,_,_=>by simp[jV] at h
theorem ky{X:Cx}:∀{ts:List T} {vs:List Value},jV ts vs=true→bw X ts vs
 |[],[],_=> .nil X
 |t::ts,v::vs,h=>by
  simp only[jV,ae] at h;exact .cons (ma h.1) (ky h.2)
 |[],_::_,h=>by simp[jV] at h
 |_::_,[],h=>by simp[jV] at h
def okO(F:Nat→FuncId):O→Operand→Bool
 | .t n,.tmp m=>n==m
 | .k t,.const v=>rF t v
 | .fn f,.func g=>F f==g
 |_,_=>false
def ia(F:Nat→FuncId):List O→List Operand→Bool
 |[],[]=>true
 |x::xs,y::ys=>okO F x y&&ia F xs ys
 |_,_=>false
def jt(F:Nat→FuncId):Option O→Option Operand→Bool
 |none,none=>true
 |some x,some y=>okO F x y
 |_,_=>false
theorem bN.dF{X:Cx}{k:IntKind}{n:Int}{v:Value}(h:bN X (.int k n) v):v= .int k n:=by cases h;rfl
theorem bN.gr{X:Cx}{b:Bool}{v:Value}(h:bN X (.bool b) v):v= .bool b:=by cases h;rfl
theorem bN.eG{X:Cx}{s:ByteArray}{v:Value}(h:bN X (.str s) v):v= .string s:=by cases h;rfl
theorem bW.ji{X:Cx}{t:T}{v:Value}(h:bW X (.c t) v):bN X t v:=by cases h;assumption
variable {P:Program} {F:Nat→FuncId} {Pr:Nat→Prop} {w0:World} {lb:Lb} {N:Nat} {E:Nat→Option Loc} {n:Nat→Prop} {t:List (Nat×V)} {o:List (Nat×Ob)} {a:Act} {w:World}
theorem cm(R:Rel F Pr w0 lb N E n t o a w){x:O}{y:Operand}(h:okO F x y=true){v:V}(hv:look t x=some v):bW (cx F Pr E o w) v (a.eval y):=by
 unfold okO at h;split at h
 ·simp at h;subst h;exact R.tmps _ _ hv
 ·simp only[look,af] at hv;subst hv;exact .c _ _ (ma h)
 ·simp at h;subst h;simp only[look,af] at hv;subst hv;exact .c _ _ (.fn _ [] #[] rfl fun i t v ht=>by simp at ht)
 ·cases h
theorem aX(R:Rel F Pr w0 lb N E n t o a w){x:O}{y:Operand}(h:okO F x y=true){v:T}(hv:bK t x=some v):bN (cx F Pr E o w) v (a.eval y):=by
 unfold bK at hv;split at hv
 ·rename_i u hu;cases hv;exact(cm R h hu).ji
 ·cases hv
theorem jE(R:Rel F Pr w0 lb N E n t o a w){x:O}{y:Operand}(h:okO F x y=true){k:IntKind}{i:Int}(hv:gS t x=some (k,i)):a.eval y= .int k i:=by
 unfold gS at hv;split at hv
 ·rename_i u hu;cases hv;exact(cm R h ‹_›).ji.dF
 ·cases hv
theorem dI(R:Rel F Pr w0 lb N E n t o a w){x:O}{y:Operand}(h:okO F x y=true){b:Bool}(hv:ei t x=some b):a.eval y= .bool b:=by
 unfold ei at hv;split at hv
 ·cases hv;exact(cm R h ‹_›).ji.gr
 ·cases hv
theorem da(R:Rel F Pr w0 lb N E n t o a w){x:O}{y:Operand}(h:okO F x y=true){m:Nat}(hv:dP t x=some m):∃k,a.eval y= .int k (m:Int):=by
 unfold dP at hv;split at hv
 ·rename_i k i hu;split at hv
  ·cases hv;have:=(cm R h hu).ji.dF;exact⟨k,by rw[this,Int.toNat_of_nonneg ‹_›]⟩
  ·cases hv
 ·cases hv
theorem dJ(R:Rel F Pr w0 lb N E n t o a w){x:O}{y:Operand}(h:okO F x y=true){ts:List T}(hv:en t x=some ts):bw (cx F Pr E o w) ts (a.eval y).cells.toList:=by
 unfold en at hv;split at hv
 ·exact(cm R h ‹_›).cells hv
 ·cases hv
theorem pE{op:BinOp}{x y r:T}(h:bin op x y=some r){X:Cx}{xt:TypeId}{vx vy:Value}(hx:bN X x vx)(hy:bN X y vy)(u v:Operand):
  ∃val,(do eqGuard op xt u v vx vy;binOp op xt vx vy:Sem Value).run P w= .ok val w∧bN X r val:=by
 unfold bin at h;split at h
 ·rename_i k x k' y;cases hx;cases hy;have hg:(eqGuard op xt u v (.int k x) (.int k' y)).run P w= .ok () w:=by
   unfold eqGuard;split<;>simp
  simp only[Sem.run_bind,hg,Result.andThen_ok];split at h
  ·rename_i hs;unfold iL at h;split at h
   ·cases h
   ·rename_i hn;cases op<;>simp[ik] at hs<;>simp only[af] at h<;>subst h<;>
     exact⟨_,by simp[binOp,Op.shift,hn],.int _ _⟩
  ·rename_i hs;split at h
   ·rename_i hk;subst hk;cases op<;>simp[ik] at hs<;>simp only[lP] at h<;>
     (try (split at h;·cases h))<;>first
     |(cases h;done)
     |(simp only[af] at h;subst h
       first
       |(refine⟨_, ?_,.int _ _⟩;simp[binOp,Op.intArith];done)
       |(refine⟨_, ?_,.int _ _⟩;simp[binOp,Op.intDiv, *];done)
       |(refine⟨_, ?_,.int _ _⟩;simp only[binOp,ne_eq,not_true_eq_false,if_false,Op.intBits];rfl)
       |(refine⟨_, ?_,.bool _⟩;simp[binOp,Op.intCmp];done)
       |(refine⟨_, ?_,.bool _⟩;simp[binOp,Op.intCmp];rw[Bool.eq_iff_iff];simp;done))
   ·cases h
 ·rename_i x y;cases hx;cases hy;have hg:(eqGuard op xt u v (.string x) (.string y)).run P w= .ok () w:=by
   unfold eqGuard;split<;>simp
  have hb:∀a b,dC a b=Op.bytesLess a b:=by
   intro a
   induction a with
   |nil=>intro b;cases b<;>rfl
   |cons c a ih=>intro b;cases b with|nil=>rfl|cons d b=>simp[dC,Op.bytesLess,ih]
  simp only[Sem.run_bind,hg,Result.andThen_ok];cases op<;>simp only[cq] at h<;>first
   |(cases h;done)
   |(split at h
     ·rename_i hs;simp only[af] at h;subst h;refine⟨_, ?_,.str _⟩;have:¬(((x.size+y.size:Nat):Int)>IntKind.i64.max):=by
       have:IntKind.i64.max=9223372036854775807:=by decide
       rw[this];omega
      simp only[binOp,Op.stringOp];rw[if_neg this];rfl
     ·cases h)
   |(simp only[af] at h;subst h
     exact⟨_,by simp[binOp,Op.stringOp,hb],.bool _⟩)
 ·cases h
end Mx
namespace Mx
open Go
def df(P:Program)(t:TypeId):Option Bool:=
 match P.underlying t with
 |some (.struct _)=>some true
 |some (.array _ _)=>some true
 |some _=>some false
 |none=>none
def cj(P:Program)(t:TypeId):Option Nat:=(P.info? t).map (·.size)
def eF(P:Program)(t:TypeId):Option Nat:=(P.info? t).map (·.bytes)
def fb(P:Program)(t:TypeId):Option Value:=(P.info? t).bind (·.zero)
variable {P:Program} {F:Nat→FuncId} {Pr:Nat→Prop} {w0:World} {lb:Lb} {N:Nat} {E:Nat→Option Loc} {n:Nat→Prop} {t:List (Nat×V)} {o:List (Nat×Ob)} {a:Act} {w:World}
theorem dY{t:TypeId}{i:TypeInfo}(h:P.info? t=some i)(w:World):(typeInfo t).run P w= .ok i w:=by simp[typeInfo,h]
theorem cM{t:TypeId}{b:Bool}(h:df P t=some b)(w:World):(isAgg t).run P w= .ok b w:=by
 unfold df at h;split at h<;>simp only[af,reduceCtorEq] at h
 all_goals
  subst h;rename_i hu;simp[isAgg,run_underlying hu]
theorem bu{t:TypeId}{k:Nat}(h:cj P t=some k)(w:World):(Go.sizeOf t).run P w= .ok k w:=by
 unfold cj at h;cases hi:P.info? t with
 |none=>simp[hi] at h
 |some i=>simp[hi] at h;simp[Go.sizeOf,dY hi,h]
theorem cL{t:TypeId}{v:Value}(h:fb P t=some v)(w:World):(zeroValue t).run P w= .ok v w:=by
 unfold fb at h;cases hi:P.info? t with
 |none=>simp[hi] at h
 |some i=>simp[hi] at h;simp[zeroValue,dY hi,h]
theorem cH(R:Rel F Pr w0 lb N E n t o a w){id aw:Nat}{ob:Ob}(hg:get o id=some ob)(hv:ob.aw=aw){b cap sz:Nat}(hE:E aw=some (.cK b cap sz)):
  sz=ob.sz∧gv (cx F Pr E o w) ob b cap:=by
 obtain⟨_,l,hl,hr⟩:=R.dO id ob hg;rw[hv,hE] at hl;cases hl;exact hr
theorem jB(R:Rel F Pr w0 lb N E n t o a w){x:T}{v:Value}(hx:bN (cx F Pr E o w) x v){r:List T}{j:Nat}(hp:place o x=some (r,j)):
  ∃ad,v= .pointer (some ad)∧∀(q:Nat) (t:T),r[j+q]? =some t→∃u,w.cell? (ad.add q)=some u∧bN (cx F Pr E o w) t u:=by
 unfold place at hp;split at hp
 ·rename_i id aw i jj;split at hp
  ·rename_i ob hg;split at hp
   ·rename_i hv;split at hp
    ·rename_i r' hr;simp only[af,ah] at hp;obtain⟨rfl,rfl⟩:=hp;cases hx with
     |ptr _ _ _ _ b cap sz hE=>
      obtain⟨rfl,h1,h2,hcl,cs,e,fr,m1,m2,m3,m4⟩:=cH R hg hv hE;refine⟨_,rfl,fun q t ht=> ?_⟩;obtain⟨u,hu,hr2⟩:=m4 i (jj+q) r' t hr ht;refine⟨u, ?_,hr2⟩;rw[add_add,dr];have m1':w.heap[b]? =some (.cells cs e fr):=m1;rw[Nat.add_assoc];simp[World.cell?,m1',hu]
    ·cases hp
   ·cases hp
  ·cases hp
 ·rename_i cells jj;simp only[af,ah] at hp;obtain⟨rfl,rfl⟩:=hp;cases hx with
  |vp _ _ ad vs hcell hrep hcl=>exact⟨ad,rfl,fun q t ht=>⟨vs q,(hcell q t ht).2,hrep q t ht⟩⟩
 ·cases hp
theorem j5{ty:TypeId}{ad:Addr}{cs:List Value}(ha:df P ty=some true)(hs:cj P ty=some cs.length)
  (h:∀(q:Nat) (v:Value),cs[q]? =some v→w.cell? (ad.add q)=some v):(Instr.loadAt ty (.pointer (some ad))).run P w= .ok (.agg cs.toArray) w:=by
 simp only[Instr.loadAt,Instr.sureAddr,loadVar,Sem.run_bind,Sem.run_pure,Result.andThen_ok,cM ha,if_true,bu hs];rw[run_loadCells_list w ad cs h];simp
theorem j0{ty:TypeId}{ad:Addr}{v:Value}(ha:df P ty=some false)(h:w.cell? ad=some v):(Instr.loadAt ty (.pointer (some ad))).run P w= .ok v w:=by
 simp[Instr.loadAt,Instr.sureAddr,loadVar,cM ha,h]
theorem jA{X:Cx}{r:List T}{j k:Nat}{ad:Addr}(h:∀(q:Nat) (t:T),r[j+q]? =some t→∃u,X.w.cell? (ad.add q)=some u∧bN X t u)(hk:j+k≤r.length):
  ∃cs:List Value,cs.length=k∧bw X ((r.drop j).take k) cs∧∀(q:Nat) (v:Value),cs[q]? =some v→X.w.cell? (ad.add q)=some v:=by
 induction k generalizing j ad r with
 |zero=>exact⟨[],rfl,by simpa using bw.nil X,fun q v hv=>by simp at hv⟩
 |succ k ih=>
  have hlt:j<r.length:=by omega
  obtain⟨u,hu,hr⟩:=h 0 r[j] (by simp[hlt]);have h':∀(q:Nat) (t:T),r[j+1+q]? =some t→∃u,X.w.cell? ((ad.add 1).add q)=some u∧bN X t u:=by
   intro q t ht;obtain⟨u,hu,hr⟩:=h (1+q) t (by rw[←ht];congr 1;omega);exact⟨u,by rw[add_add];exact hu,hr⟩
  obtain⟨cs,hl,hrep,hc⟩:=ih h' (by omega);refine⟨u::cs,by simp[hl], ?_, ?_⟩
  ·rw[bM hlt,List.take_succ_cons];exact .cons hr hrep
  ·intro q v hv;cases q with
   |zero=>simp at hv;subst hv;exact hu
   |succ q=>
    simp at hv;have:=hc q v hv;rw[add_add] at this;rw[Nat.add_comm q 1];exact this
theorem bQ{b:Nat}{e:TypeId}{fr:Nat×Nat}:∀(vs:List Value) (i off:Nat) (cs:Array Value) (w:World),w.heap[b]? =some (.cells cs e fr)→off+i+vs.length≤cs.size→
  (∀o,o≤cs.size→¬(fr.1≤o∧o<fr.2))→(∀v∈vs,v.oneCell'=true)→
  ∃w' cs',(storeCells ((bI b).add off) vs i).run P w= .ok () w'∧w'.os=w.os∧w'.tape=w.tape∧w'.output=w.output∧w'.heap.size=w.heap.size∧
   (∀k,k≠b→w'.heap[k]? =w.heap[k]?)∧w'.heap[b]? =some (.cells cs' e fr)∧cs'.size=cs.size∧
   ∀q,cs'[q]? =if off+i≤q∧q<off+i+vs.length then vs[q-(off+i)]? else cs[q]?
 |[],i,off,cs,w,hb,hl,hf,h1=>by
  refine⟨w,cs,by simp[storeCells],rfl,rfl,rfl,rfl,fun _ _=>rfl,hb,rfl,fun q=> ?_⟩;rw[if_neg (by simp)]
 |v::vs,i,off,cs,w,hb,hl,hf,h1=>by
  simp only[ak] at hl;have ha:((bI b).add off).add i=⟨b,off+i,none⟩:=by rw[add_add,dr]
  have hlt:off+i<cs.size:=by omega
  have hc:w.cell? ⟨b,off+i,none⟩=some cs[off+i]:=by simp[World.cell?,hb,hlt]
  have hfz:w.frozen? ⟨b,off+i,none⟩=false:=by
   have:=hf (off+i) (Nat.le_of_lt hlt);simp only[World.frozen?,hb];simp only[not_and] at this;simp only[Bool.and_eq_false_iff,decide_eq_false_iff_not];by_cases q:fr.1≤off+i
   ·exact .inr (this q)
   ·exact .inl q
  have hs:(store (((bI b).add off).add i) v).run P w= .ok () (w.setCell ⟨b,off+i,none⟩ v):=by
   rw[ha,run_store P w _ v .plain (h1 v (by simp)),hc];simp[hfz]
  have hb':(w.setCell ⟨b,off+i,none⟩ v).heap[b]? =some (.cells (cs.setIfInBounds (off+i) v) e fr):=by
   simp only[World.setCell,Array.getElem?_modify,hb];simp
  obtain⟨w',cs',g1,g2,g3,g4,g5,g6,g7,g8,g9⟩:=bQ vs (i+1) off (cs.setIfInBounds (off+i) v) _ hb' (by simpa using(by omega)) (by simpa using hf) (fun u hu=>h1 u (by simp[hu]));refine⟨w',cs', ?_,g2,g3,g4,by rw[g5];simp, ?_,g7,by rw[g8];simp,fun q=> ?_⟩
  ·simp only[storeCells,Sem.run_bind,hs,Result.andThen_ok];exact g1
  ·intro k hk;rw[g6 k hk];simp only[World.setCell,Array.getElem?_modify];rw[if_neg (fun e=>hk e.symm)]
  ·rw[g9 q,Array.getElem?_setIfInBounds];by_cases r:off+(i+1)≤q∧q<off+(i+1)+vs.length
   ·rw[if_pos r,if_pos ⟨by omega,by simp only[ak];omega⟩];obtain⟨p,rfl⟩:∃p,q=off+i+(p+1):=⟨q-(off+i)-1,by omega⟩
    rw[show off+i+(p+1)-(off+i)=p+1 from by omega,show off+i+(p+1)-(off+(i+1))=p from by omega];simp
   ·rw[if_neg r];by_cases e:off+i=q
    ·subst e;rw[if_pos rfl,if_pos hlt,if_pos ⟨Nat.le_refl _,by simp⟩];simp
    ·rw[if_neg e,if_neg (by simp only[ak];omega)]
end Mx
namespace Mx
open Go
variable {P:Program} {F:Nat→FuncId} {Pr:Nat→Prop} {w0:World} {lb:Lb} {N:Nat} {E:Nat→Option Loc} {n:Nat→Prop} {t:List (Nat×V)} {o:List (Nat×Ob)} {a:Act} {w:World}
theorem dR{sz:Nat}:∀{rows:List (List T)},(∀(i:Nat) (r:List T),rows[i]? =some r→r.length=sz)→∀{i j:Nat} {r:List T} {t:T},rows[i]? =some r→r[j]? =some t→rows.flatten[i*sz+j]? =some t
 |[],_,i,j,r,t,hr,_=>by simp at hr
 |r0::rows,hw,i,j,r,t,hr,ht=>by
  have h0:=hw 0 r0 (by simp);cases i with
  |zero=>
   simp at hr;subst hr;have:j<r0.length:=(List.getElem?_eq_some_iff.1 ht).1;simp only[List.flatten_cons,Nat.zero_mul,Nat.zero_add];rw[List.getElem?_append_left this];exact ht
  |succ i=>
   have ih:=dR (rows:=rows) (fun i r h=>hw (i+1) r (by simpa using h)) (i:=i) (j:=j) (by simpa using hr) ht;simp only[List.flatten_cons];rw[List.getElem?_append_right (by rw[h0,Nat.succ_mul];omega),h0,←ih];congr 1;rw[Nat.succ_mul];omega
theorem cQ{sz:Nat}:∀{rows:List (List T)},(∀(i:Nat) (r:List T),rows[i]? =some r→r.length=sz)→rows.flatten.length=rows.length*sz
 |[],_=>by simp
 |r0::rows,hw=>by
  have h0:=hw 0 r0 (by simp);have ih:=cQ (rows:=rows) (fun i r h=>hw (i+1) r (by simpa using h));simp only[List.flatten_cons,a_,ak,ih,h0,Nat.succ_mul];omega
theorem js{X:Cx}{ob:Ob}{b cap:Nat}{cl:List Value}{cs:Array Value}{e:TypeId}{fr:Nat×Nat}(hl:ob.rows.length≤cap)
  (hw:∀(i:Nat) (r:List T),ob.rows[i]? =some r→r.length=ob.sz) (hr:bw X ob.rows.flatten cl) (hm:X.w.heap[b]? =some (.cells cs e fr)) (hs:cs.size=cap*ob.sz)
  (hf:∀o,o≤cs.size→¬(fr.1≤o∧o<fr.2)) (hp:∀(q:Nat) (v:Value),cl[q]? =some v→cs[q]? =some v)
  (hcl:ob.bx=false→∀(i j:Nat) (r:List T) (t:T),ob.rows[i]? =some r→r[j]? =some t→a7 t):gv X ob b cap:=by
 refine⟨hl,hw,hcl,cs,e,fr,hm,hs,hf,fun i j r t h1 h2=> ?_⟩;have h3:=dR hw h1 h2;have hlt:i*ob.sz+j<cl.length:=by rw[←hr.1];exact(List.getElem?_eq_some_iff.1 h3).1
 exact⟨cl[i*ob.sz+j],hp _ _ (by simp[hlt]),hr.2 _ _ _ h3 (by simp[hlt])⟩
def E1(E:Nat→Option Loc)(aw:Nat)(l:Loc):Nat→Option Loc:=fun v=>if v=aw then some l else E v
theorem mK(E:Nat→Option Loc)(aw:Nat)(l:Loc):E1 E aw l aw=some l:=by simp[E1]
theorem kv{E:Nat→Option Loc}{n:Nat→Prop}{aw:Nat}{l:Loc}(hf:∀v l,E v=some l→n v)(hn:¬n aw):∀v l',E v=some l'→E1 E aw l v=some l':=by
 intro v l' h;have:=hf v l' h;have hne:¬v=aw:=by rintro rfl;exact hn this
 simp only[E1];rw[if_neg hne];exact h
theorem jo{E:Nat→Option Loc}{n n':Nat→Prop}{aw:Nat}{l:Loc}(hf:∀v l,E v=some l→n v)(hn:∀k,n k→n' k)(hv:n' aw):∀v l',E1 E aw l v=some l'→n' v:=by
 intro v l' h;simp only[E1] at h;split at h
 ·rename_i e;rw[e];exact hv
 ·exact hn _ (hf v l' h)
theorem Rel.iT(R:Rel F Pr w0 lb N E n t o a w){w':World}(id aw:Nat)(n':Nat→Prop)(ob:Ob)(hver:ob.aw=aw)(hn:Fr n aw n')(cl:List Value)(cs:Array Value)(e:TypeId)(fr:Nat×Nat)(cap:Nat)
  (h1:w'.os=w.os) (h2:w'.tape=w.tape) (h3:w'.output=w.output) (hh:w'.heap=w.heap.push (.cells cs e fr))
  (hl:ob.rows.length≤cap) (hw:∀(i:Nat) (r:List T),ob.rows[i]? =some r→r.length=ob.sz) (hr:bw (cx F Pr E o w) ob.rows.flatten cl)
  (hs:cs.size=cap*ob.sz) (hf:∀o,o≤cs.size→¬(fr.1≤o∧o<fr.2)) (hp:∀(q:Nat) (v:Value),cl[q]? =some v→cs[q]? =some v)
  (hcl:ob.bx=false→∀(i j:Nat) (r:List T) (t:T),ob.rows[i]? =some r→r[j]? =some t→a7 t):
  Rel F Pr w0 lb N (E1 E aw (.cK w.heap.size cap ob.sz)) n' t ((id,ob)::o) a w'∧cV (cx F Pr E o w) (cx F Pr (E1 E aw (.cK w.heap.size cap ob.sz)) ((id,ob)::o) w'):=by
 refine R.rT h1 h2 h3 (by rw[hh];simp) hn.cU (kv R.fresh (hn.new _ (Nat.le_refl _) (by omega))) (jo R.fresh hn.cU (hn.add _ (Nat.le_refl _) (by omega))) ?_ (l':= .cK w.heap.size cap ob.sz) (by rw[hver,mK]) ?_ ?_
 ·intro b hb _;rw[hh,Array.getElem?_push];rw[if_neg (by omega)]
 ·intro b cap' sz' hq;cases hq;exact⟨by rw[hh];simp,.inl (Nat.le_refl _)⟩
 ·intro K;refine⟨rfl,js hl hw (hr.mono K) (cs:=cs) (e:=e) (fr:=fr) ?_ hs hf hp hcl⟩;show w'.heap[w.heap.size]? =_;rw[hh];simp
theorem Rel.oc(R:Rel F Pr w0 lb N E n t o a w)(id aw:Nat)(n':Nat→Prop)(ob:Ob)(hver:ob.aw=aw)(hn:Fr n aw n')(hr:ob.rows=[])(hb:ob.bx=false):
  Rel F Pr w0 lb N (E1 E aw .nil) n' t ((id,ob)::o) a w∧cV (cx F Pr E o w) (cx F Pr (E1 E aw .nil) ((id,ob)::o) w):=by
 refine R.rT rfl rfl rfl (Nat.le_refl _) hn.cU (kv R.fresh (hn.new _ (Nat.le_refl _) (by omega))) (jo R.fresh hn.cU (hn.add _ (Nat.le_refl _) (by omega))) (fun b hb _=>rfl) (l':= .nil) (by rw[hver,mK]) (fun b cap sz h=>by cases h) (fun K=>⟨hr,hb⟩)
theorem gA{r xs:List T}{j:Nat}(h:j+xs.length≤r.length)(q:Nat):(setAt r j xs)[q]? =if j≤q∧q<j+xs.length then xs[q-j]? else r[q]? :=by
 unfold setAt;by_cases h1:q<j
 ·rw[if_neg (by omega),bh,List.getElem?_append_left (by simp;omega),aO,if_pos h1]
 ·by_cases h2:q<j+xs.length
  ·rw[if_pos ⟨by omega,h2⟩,List.getElem?_append_left (by simp;omega),List.getElem?_append_right (by simp;omega)];simp;rw[Nat.min_eq_left (by omega)]
  ·rw[if_neg (by omega),List.getElem?_append_right (by simp;omega),bp];congr 1;simp;omega
theorem eL{r xs:List T}{j:Nat}(h:j+xs.length≤r.length):(setAt r j xs).length=r.length:=by
 unfold setAt;simp;omega
theorem cA{i i' sz j:Nat}(h:i'<i)(hj:j<sz):i'*sz+j<i*sz:=by
 have:(i'+1)*sz≤i*sz:=aU _ h;rw[Nat.add_mul,Nat.one_mul] at this;omega
theorem Rel.write(R:Rel F Pr w0 lb N E n t o a w){w':World}{id:Nat}{ob:Ob}{b cap i j:Nat}{r xs:List T}{vs:List Value}(hg:get o id=some ob)(hwr:ob.w=true)
  (hE:E ob.aw=some (.cK b cap ob.sz)) (hi:ob.rows[i]? =some r) (hj:j+xs.length≤r.length) (hx:bw (cx F Pr E o w) xs vs)
  (hxc:ob.bx=false→∀(i:Nat) (t:T),xs[i]? =some t→a7 t)
  (hrun:(storeCells ((bI b).add (i*ob.sz+j)) vs).run P w= .ok () w'):
  Rel F Pr w0 lb N E n t ((id,{ob with rows:=ob.rows.set i (setAt r j xs)})::o) a w'∧cV (cx F Pr E o w) (cx F Pr E ((id,{ob with rows:=ob.rows.set i (setAt r j xs)})::o) w'):=by
 obtain⟨_,hl,hwid,hcl,cs,e,fr,m1,m2,m3,m4⟩:=cH R hg rfl hE;have hrl:=hwid i r hi;have hil:i<ob.rows.length:=(List.getElem?_eq_some_iff.1 hi).1;have hfit:i*ob.sz+j+0+vs.length≤cs.size:=by
  rw[m2,←hx.1];have:(i+1)*ob.sz≤cap*ob.sz:=aU _ (by omega);rw[Nat.add_mul,Nat.one_mul] at this;omega
 have m1':w.heap[b]? =some (.cells cs e fr):=m1;obtain⟨w2,cs',g1,g2,g3,g4,g5,g6,g7,g8,g9⟩:=bQ (P:=P) vs 0 (i*ob.sz+j) cs w m1' hfit m3 hx.one;rw[hrun] at g1;cases g1;have hbl:b<w.heap.size:=(R.place id ob b cap ob.sz hg hE).1;refine R.rT g2 g3 g4 (by omega) (fun _ h=>h) (fun _ _ h=>h) R.fresh ?_ (l':= .cK b cap ob.sz) hE ?_ ?_
 ·intro k hk hno;by_cases e:k=b
  ·subst e;exact(hno ob cap ob.sz hg hwr hE).elim
  ·exact g6 k e
 ·intro b' cap' sz' hq;cases hq;exact⟨by rw[g5];exact hbl,.inr ⟨ob,cap,ob.sz,hg,hwr,hE⟩⟩
 ·intro K;refine⟨rfl, ?_, ?_, ?_,cs',e,fr,g7,by rw[g8];exact m2,by rw[g8];exact m3, ?_⟩
  ·simpa using hl
  ·intro i' r' hr';simp only[List.getElem?_set] at hr';split at hr'
   ·rename_i q;subst q;cases hr';show (setAt r j xs).length=ob.sz;rw[eL hj];exact hrl
   ·exact hwid i' r' hr'
  ·intro hbx i' j' r' t' hr' ht';simp only[List.getElem?_set] at hr';split at hr'
   ·rename_i q;subst q;cases hr';rw[gA hj] at ht';split at ht'
    ·exact hxc hbx _ _ ht'
    ·exact hcl hbx i j' r t' hi ht'
   ·exact hcl hbx i' j' r' t' hr' ht'
  ·intro i' j' r' t' hr' ht';simp only[List.getElem?_set] at hr';simp only[Nat.add_zero] at g9;show ∃v,cs'[i'*ob.sz+j']? =some v∧_
   rw[g9];split at hr'
   ·rename_i q;subst q;cases hr';rw[gA hj] at ht';split at ht'
    ·rename_i hq;have hlt:j'-j<vs.length:=by rw[←hx.1];omega
     rw[if_pos (by rw[←hx.1];omega),show i*ob.sz+j'-(i*ob.sz+j)=j'-j from by omega];exact⟨vs[j'-j],by simp[hlt],(hx.2 _ _ _ ht' (by simp[hlt])).mono K⟩
    ·rename_i hq;rw[if_neg (by rw[←hx.1];omega)];obtain⟨v,hv,hrep⟩:=m4 i j' r t' hi ht';exact⟨v,hv,hrep.mono K⟩
   ·rename_i hne;have hw':=hwid i' r' hr';have hj':j'<ob.sz:=by rw[←hw'];exact(List.getElem?_eq_some_iff.1 ht').1
    have hx2:=hx.1;have:¬(i*ob.sz+j≤i'*ob.sz+j'∧i'*ob.sz+j'<i*ob.sz+j+vs.length):=by
     rcases Nat.lt_or_gt_of_ne hne with h|h
     ·have:=cA (sz:=ob.sz) (j:=j+xs.length-1) h;by_cases hz:xs.length=0
      ·omega
      ·have:=this (by omega);omega
     ·have:=cA (sz:=ob.sz) (j:=j') h hj';omega
    rw[if_neg this];obtain⟨v,hv,hrep⟩:=m4 i' j' r' t' hr' ht';exact⟨v,hv,hrep.mono K⟩
end Mx
namespace Mx
open Go
def iZ(P:Program)(t:TypeId)(k:IntKind):Bool:=match P.underlying t with|some (.int k')=>k==k'|_=>false
def fi(P:Program)(t:TypeId):Bool:=match P.underlying t with|some .string=>true|_=>false
def iq(P:Program)(t:TypeId):Bool:=match P.underlying t with|some .bool=>true|_=>false
def bF(P:Program)(t:TypeId):Option TypeId:=match P.underlying t with|some (.slice e)=>some e|_=>none
def dU(P:Program)(t:TypeId):Option (Array Field):=match P.underlying t with|some (.struct fs)=>some fs|_=>none
theorem il{P:Program}{t:TypeId}{k:IntKind}(h:iZ P t k=true):P.underlying t=some (.int k):=by
 unfold iZ at h;split at h
 ·simp at h;subst h;assumption
 ·cases h
theorem fz{P:Program}{t:TypeId}(h:fi P t=true):P.underlying t=some .string:=by
 unfold fi at h;split at h
 ·assumption
 ·cases h
theorem i_{P:Program}{t:TypeId}(h:iq P t=true):P.underlying t=some .bool:=by
 unfold iq at h;split at h
 ·assumption
 ·cases h
theorem bU{P:Program}{t e:TypeId}(h:bF P t=some e):P.underlying t=some (.slice e):=by
 unfold bF at h;split at h
 ·cases h;assumption
 ·cases h
theorem eb{P:Program}{t:TypeId}{fs:Array Field}(h:dU P t=some fs):P.underlying t=some (.struct fs):=by
 unfold dU at h;split at h
 ·cases h;assumption
 ·cases h
def jr(P:Program)(zero:List T)(t:TypeId):Bool:=match fb P t with|some v=>jV zero v.cells.toList&&(cj P t==some zero.length)|none=>false
def placesOf(P:Program)(fs:Array Field):Option (List (Nat×Nat)):=fs.toList.mapM (fun f=>(P.info? f.type).map fun i=>(f.offset,i.size))
def fw(F:Nat→FuncId)(places:List (Nat×Nat)):List (Nat×Nat×O)→List (Nat×Operand)→Bool
 |[],[]=>true
 |(off,size,x)::ps,(i,y)::qs=>(places[i]? ==some (off,size))&&okO F x y&&fw F places ps qs
 |_,_=>false
def eP(F:Nat→FuncId):List (Nat×O)→List (Nat×Operand)→Bool
 |[],[]=>true
 |(i,x)::ps,(j,y)::qs=>(i==j)&&okO F x y&&eP F ps qs
 |_,_=>false
def bq(P:Program)(F:Nat→FuncId):MO→Op→Bool
 | .mv x,.move y=>okO F x y
 | .mv x,.assign y=>okO F x y
 | .np,.assign (.const (.pointer none))=>true
 | .nil _,.assign (.const (.slice none 0 0))=>true
 | .nil _,.move (.const (.slice none 0 0))=>true
 | .pick c a b,.pick c' a' b'=>okO F c c'&&okO F a a'&&okO F b b'
 | .alloc zero,.alloc e=>jr P zero e
 | .box x,.box _ y=>okO F x y
 | .build zero parts,.build t ps=>
   match dU P t with
   |some fs=>(match placesOf P fs with|some places=>jr P zero t&&fw F places parts ps.toList|none=>false)
   |none=>false
 | .cd sz len zero parts,.buildSlice t len' ps=>
   match bF P t with
   |some e=>(cj P e==some sz)&&(len==len')&&decide (0<sz)&&decide (len*sz≤16777216)&&jr P zero e&&eP F parts ps.toList
   |none=>false
 | .ie sz len zero parts,.buildSlice t len' ps=>
   match bF P t with
   |some e=>(cj P e==some sz)&&(len==len')&&decide (0<sz)&&decide (len*sz≤16777216)&&jr P zero e&&eP F parts ps.toList
   |none=>false
 | .load agg k x,.load t y=>okO F x y&&(df P t==some agg)&&(cj P t==some k)
 | .store k x y,.store t x' y'=>okO F x x'&&okO F y y'&&(cj P t==some k)
 | .bin op x y,.binOp op' _ x' y' _=>(op==op')&&okO F x x'&&okO F y y'
 | .beq neg x y,.binOp op t x' y' _=>(op==if neg then .neq else .eql)&&iq P t&&okO F x x'&&okO F y y'
 | .not x,.unOp .not _ y=>okO F x y
 | .neg x,.unOp .neg _ y=>okO F x y
 | .lQ k x,.convert s d y=>iZ P d k&&(P.underlying s).isSome&&okO F x y
 | .qV x,.convert s d y=>(match bF P s with|some e=>iZ P e .u8&&(cj P e==some 1)|none=>false)&&fi P d&&okO F x y
 | .rI sz bytes zero x,.makeSlice t l c=>
   match bF P t with
   |some e=>(cj P e==some sz)&&decide (0<sz)&&(eF P e==some bytes)&&jr P zero e&&okO F x l&&okO F x c
   |none=>false
 | .rJ sz bytes zero x y,.makeSlice t l c=>
   match bF P t with
   |some e=>(cj P e==some sz)&&decide (0<sz)&&(eF P e==some bytes)&&jr P zero e&&okO F x l&&okO F y c
   |none=>false
 | .iI x lo hi,.slice t y lo' hi' none=>fi P t&&okO F x y&&jt F lo lo'&&jt F hi hi'
 | .qO sz x lo hi mx,.slice t y lo' hi' mx'=>
   match bF P t with
   |some e=>(cj P e==some sz)&&okO F x y&&jt F lo lo'&&jt F hi hi'&&jt F mx mx'&&(mx.isNone||hi.isSome)
   |none=>false
 | .kG sz x lo hi,.slice t y lo' hi' none=>
   match bF P t with
   |some e=>(cj P e==some sz)&&okO F x y&&jt F lo lo'&&jt F hi hi'
   |none=>false
 | .fI off x,.fieldAddr s y f=>
   match dU P s with
   |some fs=>(match fs[f]? with|some fd=>(fd.offset==off)&&(match cj P fd.type with|some k=>k !=0|none=>false)&&okO F x y|none=>false)
   |none=>false
 | .dB sz x ix,.indexAddr t y iy=>
   match bF P t with
   |some e=>(cj P e==some sz)&&decide (0<sz)&&okO F x y&&okO F ix iy
   |none=>false
 | .idx x ix,.index t y iy=>fi P t&&okO F x y&&okO F ix iy
 | .p5 agg off k x,.field t y f=>
   match dU P t with
   |some fs=>(match fs[f]? with|some fd=>(fd.offset==off)&&(df P fd.type==some agg)&&(cj P fd.type==some k)&&okO F x y|none=>false)
   |none=>false
 | .ext i x,.extract y j=>(i==j)&&okO F x y
 | .lL f caps,.makeFunc (.func g) first captured=>(F f==g)&&first.isEmpty&&ia F caps captured.toList
 | .fD x,.nilCheck y=>okO F x y
 |_,_=>false
def okB(P:Program)(F:Nat→FuncId):MO→Builtin→List Operand→List TypeId→Bool
 | .len x,.len,[y],[ty]=>okO F x y&&(bF P ty).isSome
 | .fC x,.len,[y],[ty]=>okO F x y&&fi P ty
 | .app sz bytes x y,.append,[x',y'],[t,u]=>
   match bF P t with
   |some e=>(cj P e==some sz)&&decide (0<sz)&&(eF P e==some bytes)&&(match P.underlying u with|some (.int _)=>false|some _=>true|none=>false)&&okO F x x'&&okO F y y'&&(match fb P e with|some v=>v.cells.size==sz|none=>false)
   |none=>false
 | .lf sz bytes x y,.append,[x',y'],[t,u]=>
   match bF P t with
   |some e=>(cj P e==some sz)&&decide (0<sz)&&(eF P e==some bytes)&&(match P.underlying u with|some (.int _)=>false|some _=>true|none=>false)&&okO F x x'&&okO F y y'&&(match fb P e with|some v=>v.cells.size==sz|none=>false)
   |none=>false
 | .qU zero x,.clear,[y],[t]=>match bF P t with|some e=>jr P zero e&&decide (0<zero.length)&&okO F x y|none=>false
 | .max x y,.max,[x',y'],_=>okO F x x'&&okO F y y'
 | .min x y,.min,[x',y'],_=>okO F x x'&&okO F y y'
 |_,_,_,_=>false
theorem pO{P:Program}{F:Nat→FuncId}{x:O}{b:Builtin}{as:List Operand}{ats:List TypeId}(h:okB P F (.len x) b as ats=true):
  ∃y ty,b= .len∧as=[y]∧ats=[ty]∧okO F x y=true∧∃e,bF P ty=some e:=by
 cases b<;>first|(simp[okB] at h;done)|skip
 rcases as with _|⟨y,_|⟨z,as⟩⟩<;>first|(simp[okB] at h;done)|skip
 rcases ats with _|⟨ty,_|⟨z,ats⟩⟩<;>first|(simp[okB] at h;done)|skip
 simp only[okB,ae,Option.isSome_iff_exists] at h;exact⟨y,ty,rfl,rfl,rfl,h.1,h.2⟩
theorem n6{P:Program}{F:Nat→FuncId}{x:O}{b:Builtin}{as:List Operand}{ats:List TypeId}(h:okB P F (.fC x) b as ats=true):
  ∃y ty,b= .len∧as=[y]∧ats=[ty]∧okO F x y=true∧fi P ty=true:=by
 cases b<;>first|(simp[okB] at h;done)|skip
 rcases as with _|⟨y,_|⟨z,as⟩⟩<;>first|(simp[okB] at h;done)|skip
 rcases ats with _|⟨ty,_|⟨z,ats⟩⟩<;>first|(simp[okB] at h;done)|skip
 simp only[okB,ae] at h;exact⟨y,ty,rfl,rfl,rfl,h.1,h.2⟩
theorem mm{P:Program}{F:Nat→FuncId}{sz bytes:Nat}{x y:O}{b:Builtin}{as:List Operand}{ats:List TypeId}(h:okB P F (.app sz bytes x y) b as ats=true):
  ∃x' y' ty u e d,b= .append∧as=[x',y']∧ats=[ty,u]∧okO F x x'=true∧okO F y y'=true∧bF P ty=some e∧cj P e=some sz∧0<sz∧eF P e=some bytes∧
   P.underlying u=some d∧(∀k,d≠.int k)∧∃zv,fb P e=some zv∧zv.cells.size=sz:=by
 cases b<;>first|(simp[okB] at h;done)|skip
 rcases as with _|⟨x',_|⟨y',_|⟨z,as⟩⟩⟩<;>first|(simp[okB] at h;done)|skip
 rcases ats with _|⟨ty,_|⟨u,_|⟨z,ats⟩⟩⟩<;>first|(simp[okB] at h;done)|skip
 simp only[okB] at h;split at h
 ·rename_i e he;simp only[ae,beq_iff_eq,decide_eq_true_eq] at h;obtain⟨⟨⟨⟨⟨⟨h1,h2⟩,h3⟩,h4⟩,h5⟩,h6⟩,h7⟩:=h;split at h7
  ·rename_i zv hzv;split at h4
   ·cases h4
   ·rename_i d hd1 hd2;exact⟨x',y',ty,u,e,d,rfl,rfl,rfl,h5,h6,he,h1,h2,h3,hd2,fun k hk=>hd1 k hk,zv,hzv,by simpa using h7⟩
   ·cases h4
  ·cases h7
 ·cases h
theorem n7{P:Program}{F:Nat→FuncId}{sz bytes:Nat}{x y:O}{b:Builtin}{as:List Operand}{ats:List TypeId}:okB P F (.lf sz bytes x y) b as ats=okB P F (.app sz bytes x y) b as ats:=by
 cases b<;>first|(simp[okB];done)|skip
 rcases as with _|⟨x',_|⟨y',_|⟨z,as⟩⟩⟩<;>first|(simp[okB];done)|skip
 rcases ats with _|⟨ty,_|⟨u,_|⟨z,ats⟩⟩⟩<;>simp only[okB]
theorem pP{P:Program}{F:Nat→FuncId}{zero:List T}{x:O}{b:Builtin}{as:List Operand}{ats:List TypeId}(h:okB P F (.qU zero x) b as ats=true):
  ∃y ty e,b= .clear∧as=[y]∧ats=[ty]∧okO F x y=true∧bF P ty=some e∧jr P zero e=true∧0<zero.length:=by
 cases b<;>first|(simp[okB] at h;done)|skip
 rcases as with _|⟨y,_|⟨z,as⟩⟩<;>first|(simp[okB] at h;done)|skip
 rcases ats with _|⟨ty,_|⟨z,ats⟩⟩<;>first|(simp[okB] at h;done)|skip
 simp only[okB] at h;split at h
 ·rename_i e he;simp only[ae,decide_eq_true_eq] at h;exact⟨y,ty,e,rfl,rfl,rfl,h.2,he,h.1.1,h.1.2⟩
 ·cases h
theorem pN{P:Program}{F:Nat→FuncId}{x y:O}{b:Builtin}{as:List Operand}{ats:List TypeId}(h:okB P F (.max x y) b as ats=true):
  ∃x' y',b= .max∧as=[x',y']∧okO F x x'=true∧okO F y y'=true:=by
 cases b<;>first|(simp[okB] at h;done)|skip
 rcases as with _|⟨x',_|⟨y',_|⟨z,as⟩⟩⟩<;>first|(simp[okB] at h;done)|skip
 simp only[okB,ae] at h;exact⟨x',y',rfl,rfl,h.1,h.2⟩
theorem pM{P:Program}{F:Nat→FuncId}{x y:O}{b:Builtin}{as:List Operand}{ats:List TypeId}(h:okB P F (.min x y) b as ats=true):
  ∃x' y',b= .min∧as=[x',y']∧okO F x x'=true∧okO F y y'=true:=by
 cases b<;>first|(simp[okB] at h;done)|skip
 rcases as with _|⟨x',_|⟨y',_|⟨z,as⟩⟩⟩<;>first|(simp[okB] at h;done)|skip
 simp only[okB,ae] at h;exact⟨x',y',rfl,rfl,h.1,h.2⟩
def j_(P:Program)(F:Nat→FuncId)(f:Nat):Bool:=match P.funcs[F f]? with|some fn=>(fn.name != "runtime.NumGoroutine")&&fn.body.isSome|none=>false
def fF(P:Program)(F:Nat→FuncId)(m:MO)(c:Call):Bool:=
 match c.callee with
 | .builtin b=>okB P F m b c.args.toList c.argTypes.toList
 | .value f=>
   match m with
   | .call g as _ _=>okO F (.fn g) f&&ia F as c.args.toList
   | .hJ x as=>okO F x f&&ia F as c.args.toList
   |_=>false
 |_=>false
variable {P:Program} {F:Nat→FuncId} {Pr:Nat→Prop} {w0:World} {lb:Lb} {N:Nat} {E:Nat→Option Loc} {n:Nat→Prop} {t:List (Nat×V)} {o:List (Nat×Ob)} {a:Act} {w:World}
def sO(P:Program)(oper:Oper)(a:Act)(w:World)(val:Value)(w':World):Prop:=
 (execOp a.eval oper).run P w= .ok (.value val) w'∨((execOp a.eval oper).run P w= .ok .skip w'∧val=undef)
def eE(P:Program)(F:Nat→FuncId)(Pr:Nat→Prop)(w0:World)(lb:Lb)(N:Nat)(n':Nat→Prop)(t:List (Nat×V))(o:List (Nat×Ob))(a:Act)(w:World)(oper:Oper)(v:V)(bf:List (Nat×Ob)):Prop:=
 ∃val w' E',sO P oper a w val w'∧Rel F Pr w0 lb N E' n' t (bf++o) a w'∧bW (cx F Pr E' (bf++o) w') v val
theorem aJ(R:Rel F Pr w0 lb N E n t o a w){n':Nat→Prop}(hn:∀k,n k→n' k){oper:Oper}{v:V}{val:Value}(hr:(execOp a.eval oper).run P w= .ok (.value val) w)(hv:bW (cx F Pr E o w) v val):
  eE P F Pr w0 lb N n' t o a w oper v []:=⟨val,w,E,.inl hr,R.same rfl rfl rfl rfl hn,hv⟩
theorem dM{X:Cx}{zero:List T}{ty:TypeId}(h:jr P zero ty=true):∃v,fb P ty=some v∧bw X zero v.cells.toList∧cj P ty=some zero.length∧∀(i:Nat) (t:T),zero[i]? =some t→a7 t:=by
 unfold jr at h;split at h
 ·rename_i v hv;simp at h;exact⟨v,hv,ky h.1,h.2,gL h.1⟩
 ·cases h
theorem pK{r:List T}:∀(i:Nat) (r':List T),[r][i]? =some r'→r'.length=r.length:=by
 intro i r' h;cases i with
 |zero=>simp at h;subst h;rfl
 |succ i=>simp at h
theorem mA(R:Rel F Pr w0 lb N E n t o a w){nn:Nat}{n':Nat→Prop}(hn:Fr n nn n'){oper:Oper}{d:Nat}{cs:List T}{cells:Array Value}{e:TypeId}(hc:bw (cx F Pr E o w) cs cells.toList)
  (hr:(execOp a.eval oper).run P w= .ok (.value (.pointer (some (bI w.heap.size)))) {w with heap:=w.heap.push (.cells cells e)}):
  eE P F Pr w0 lb N n' t o a w oper (.c (.ptr d nn 0 0)) [(d,{aw:=nn,sz:=cs.length,w:=true,bx:=true,rows:=[cs]})]:=by
 have hsz:cells.size=cs.length:=by have:=hc.1;simpa using this.symm
 obtain⟨R2,K⟩:=R.iT d nn n' {aw:=nn,sz:=cs.length,w:=true,bx:=true,rows:=[cs]} rfl hn cells.toList cells e (0,0) 1 (w':={w with heap:=w.heap.push (.cells cells e)}) rfl rfl rfl rfl
  (by simp) pK (by simpa using hc) (by simp[hsz]) (by simp) (by intro q v h;simpa using h) (by simp)
 refine⟨_,_,_,.inl hr,R2,.c _ _ ?_⟩;have:=bN.ptr (X:=cx F Pr (E1 E nn (.cK w.heap.size 1 cs.length)) ([(d,{aw:=nn,sz:=cs.length,w:=true,bx:=true,rows:=[cs]})]++o) {w with heap:=w.heap.push (.cells cells e)}) d nn 0 0 w.heap.size 1 cs.length (by simp[cx,E1])
 simpa [Addr.add] using this
theorem rB(R:Rel F Pr w0 lb N E n t o a w){nn:Nat}{n':Nat→Prop}(hn:Fr n nn n'){cf:ay}{d:Nat}{x:O}{oper:Oper}(hok:bq P F (.mv x) oper.op=true){v:V}{bf:List (Nat×Ob)}
  (h:act cf nn d t o (.mv x)=some (v,bf)):eE P F Pr w0 lb N n' t o a w oper v bf:=by
 simp only[act,ab,ah] at h;obtain⟨u,hu,rfl,rfl⟩:=h;cases hop:oper.op with
 |move y=>rw[hop] at hok;exact aJ R hn.cU (by simp[execOp,hop]) (cm R hok hu)
 |assign y=>rw[hop] at hok;exact aJ R hn.cU (by simp[execOp,hop]) (cm R hok hu)
 |_=>rw[hop] at hok;simp[bq] at hok
theorem rA(R:Rel F Pr w0 lb N E n t o a w){nn:Nat}{n':Nat→Prop}(hn:Fr n nn n'){cf:ay}{d:Nat}{oper:Oper}(hok:bq P F .np oper.op=true){v:V}{bf:List (Nat×Ob)}
  (h:act cf nn d t o .np=some (v,bf)):eE P F Pr w0 lb N n' t o a w oper v bf:=by
 simp only[act,af,ah] at h;obtain⟨rfl,rfl⟩:=h;unfold bq at hok;split at hok<;>first|(cases hok;done)|skip
 all_goals first|(exact aJ R hn.cU (val:= .pointer none) (by simp_all[execOp,Act.eval]) (.undef _ (by intro b h;cases h)))|simp_all
theorem qq(R:Rel F Pr w0 lb N E n t o a w){nn:Nat}{n':Nat→Prop}(hn:Fr n nn n'){cf:ay}{d sz:Nat}{oper:Oper}(hok:bq P F (.nil sz) oper.op=true){v:V}{bf:List (Nat×Ob)}
  (h:act cf nn d t o (.nil sz)=some (v,bf)):eE P F Pr w0 lb N n' t o a w oper v bf:=by
 simp only[act,af,ah] at h;obtain⟨rfl,rfl⟩:=h;have hr:(execOp a.eval oper).run P w= .ok (.value (.slice none 0 0)) w:=by
  unfold bq at hok;split at hok<;>first|(cases hok;done)|simp_all[execOp,Act.eval]
 obtain⟨R2,K⟩:=R.oc d nn n' {aw:=nn,sz:=sz,w:=true,bx:=false,rows:=[]} rfl hn rfl rfl;exact⟨_,_,_,.inl hr,R2,.c _ _ (.dE d nn (by simp[cx,E1]))⟩
theorem oY(R:Rel F Pr w0 lb N E n t o a w){nn:Nat}{n':Nat→Prop}(hn:Fr n nn n'){cf:ay}{d:Nat}{c x y:O}{oper:Oper}(hok:bq P F (.pick c x y) oper.op=true){v:V}{bf:List (Nat×Ob)}
  (h:act cf nn d t o (.pick c x y)=some (v,bf)):eE P F Pr w0 lb N n' t o a w oper v bf:=by
 simp only[act] at h;split at h
 ·rename_i b hb;simp only[ab,ah] at h;obtain⟨u,hu,rfl,rfl⟩:=h;cases hop:oper.op with
  |pick c' x' y'=>
   rw[hop] at hok;simp only[bq,ae] at hok;refine aJ R hn.cU (val:=if b then a.eval x' else a.eval y') ?_ ?_
   ·simp[execOp,hop,dI R hok.1.1 hb,asBool]
   ·cases b
    ·exact cm R hok.2 hu
    ·exact cm R hok.1.2 hu
  |_=>rw[hop] at hok;simp[bq] at hok
 ·cases h
theorem nF(R:Rel F Pr w0 lb N E n t o a w){nn:Nat}{n':Nat→Prop}(hn:Fr n nn n'){cf:ay}{d:Nat}{zero:List T}{oper:Oper}(hok:bq P F (.alloc zero) oper.op=true){v:V}{bf:List (Nat×Ob)}
  (h:act cf nn d t o (.alloc zero)=some (v,bf)):eE P F Pr w0 lb N n' t o a w oper v bf:=by
 simp only[act,af,ah] at h;obtain⟨rfl,rfl⟩:=h;cases hop:oper.op with
 |alloc e=>
  rw[hop] at hok;obtain⟨v,hv,hrep,_⟩:=dM (P:=P) (X:=cx F Pr E o w) hok;exact mA R hn hrep (e:=e) (by simp[execOp,hop,Instr.alloc,cL hv,newVar,newRow,bI])
 |_=>rw[hop] at hok;simp[bq] at hok
theorem qE(R:Rel F Pr w0 lb N E n t o a w){nn:Nat}{n':Nat→Prop}(hn:Fr n nn n'){cf:ay}{d:Nat}{x:O}{oper:Oper}(hok:bq P F (.box x) oper.op=true){v:V}{bf:List (Nat×Ob)}
  (h:act cf nn d t o (.box x)=some (v,bf)):eE P F Pr w0 lb N n' t o a w oper v bf:=by
 simp only[act,ab,ah] at h;obtain⟨cs,hcs,rfl,rfl⟩:=h;cases hop:oper.op with
 |box e y=>
  rw[hop] at hok;exact mA R hn (dJ R hok hcs) (e:=e) (by simp[execOp,hop,Instr.box,newVar,newRow,bI])
 |_=>rw[hop] at hok;simp[bq] at hok
theorem o4(R:Rel F Pr w0 lb N E n t o a w){nn:Nat}{n':Nat→Prop}(hn:Fr n nn n'){cf:ay}{d k:Nat}{agg:Bool}{x:O}{oper:Oper}(hok:bq P F (.load agg k x) oper.op=true){v:V}{bf:List (Nat×Ob)}
  (h:act cf nn d t o (.load agg k x)=some (v,bf)):eE P F Pr w0 lb N n' t o a w oper v bf:=by
 cases hop:oper.op with
 |load ty y=>
  rw[hop] at hok;simp only[bq,ae,beq_iff_eq] at hok;simp only[act] at h;split at h
  ·cases h
  ·rename_i p hp;split at h
   ·cases h
   ·rename_i r j hpl;obtain⟨ad,had,hcell⟩:=jB R (aX R hok.1.1 hp) hpl;split at h
    ·rename_i hagg;split at h
     ·rename_i hjk;cases h;obtain⟨cs,hlen,hrep,hc⟩:=jA (X:=cx F Pr E o w) hcell hjk;refine aJ R hn.cU (val:= .agg cs.toArray) ?_ (bW.rH hrep);have hl:=j5 (P:=P) (w:=w) (ty:=ty) (by rw[hok.1.2,hagg]) (by rw[hok.2,hlen]) hc;simp only[execOp,hop,had,Sem.run_bind,hl];rfl
     ·cases h
    ·rename_i hagg;simp only[ab,ah] at h;obtain⟨c,hc,rfl,rfl⟩:=h;obtain⟨u,hu,hrep⟩:=hcell 0 c (by simpa using hc);rw[add_zero] at hu;refine aJ R hn.cU (val:=u) ?_ (.c _ _ hrep);have hl:=j0 (P:=P) (w:=w) (ty:=ty) (by rw[hok.1.2];cases agg<;>simp_all) hu;simp only[execOp,hop,had,Sem.run_bind,hl];rfl
 |_=>rw[hop] at hok;simp[bq] at hok
theorem qF(R:Rel F Pr w0 lb N E n t o a w){nn:Nat}{n':Nat→Prop}(hn:Fr n nn n'){cf:ay}{d:Nat}{op:BinOp}{x y:O}{oper:Oper}(hok:bq P F (.bin op x y) oper.op=true){v:V}{bf:List (Nat×Ob)}
  (h:act cf nn d t o (.bin op x y)=some (v,bf)):eE P F Pr w0 lb N n' t o a w oper v bf:=by
 cases hop:oper.op with
 |binOp op' ty x' y' ty'=>
  rw[hop] at hok;simp only[bq,ae,beq_iff_eq] at hok;obtain⟨⟨rfl,hx⟩,hy⟩:=hok;simp only[act] at h;split at h
  ·rename_i p q hp hq;simp only[ab,ah] at h;obtain⟨r,hr,rfl,rfl⟩:=h;obtain⟨val,hrun,hrep⟩:=pE (P:=P) (w:=w) hr (aX R hx hp) (aX R hy hq) (xt:=ty) x' y';refine aJ R hn.cU (val:=val) ?_ (.c _ _ hrep);simp only[execOp,hop,Sem.run_bind] at hrun ⊢;rw[hrun];rfl
  ·cases h
 |_=>rw[hop] at hok;simp[bq] at hok
theorem run_equalIn_bool{ty:TypeId}(hb:P.underlying ty=some .bool)(d:Nat)(x y:Bool):(Op.equalIn (d+1) ty (.bool x) (.bool y)).run P w= .ok (x==y) w:=by
 simp[Op.equalIn,run_underlying hb]
theorem run_equal_bool{ty:TypeId}(hb:P.underlying ty=some .bool)(x y:Bool):(Op.equal ty (.bool x) (.bool y)).run P w= .ok (x==y) w:=run_equalIn_bool hb 9999 x y
theorem qG(R:Rel F Pr w0 lb N E n t o a w){nn:Nat}{n':Nat→Prop}(hn:Fr n nn n'){cf:ay}{d:Nat}{neg:Bool}{x y:O}{oper:Oper}(hok:bq P F (.beq neg x y) oper.op=true){v:V}{bf:List (Nat×Ob)}
  (h:act cf nn d t o (.beq neg x y)=some (v,bf)):eE P F Pr w0 lb N n' t o a w oper v bf:=by
 cases hop:oper.op with
 |binOp op' ty x' y' ty'=>
  rw[hop] at hok;simp only[bq,ae,beq_iff_eq] at hok;obtain⟨⟨⟨rfl,hb⟩,hx⟩,hy⟩:=hok;simp only[act] at h;split at h
  ·rename_i p q hp hq;simp only[af,ah] at h;obtain⟨rfl,rfl⟩:=h;refine aJ R hn.cU (val:= .bool (if neg then !(p==q) else p==q)) ?_ (.c _ _ (.bool _));have he:=run_equal_bool (P:=P) (w:=w) (i_ hb) p q;have hg:∀op,(eqGuard op ty x' y' (.bool p) (.bool q)).run P w= .ok () w:=by intro op;unfold eqGuard;split<;>simp
   cases neg<;>simp only[execOp,hop,dI R hx hp,dI R hy hq,Sem.run_bind,hg,Result.andThen_ok,binOp,he,av,if_true,if_false]<;>rfl
  ·cases h
 |_=>rw[hop] at hok;simp[bq] at hok
theorem qp(R:Rel F Pr w0 lb N E n t o a w){nn:Nat}{n':Nat→Prop}(hn:Fr n nn n'){cf:ay}{d:Nat}{x:O}{oper:Oper}(hok:bq P F (.not x) oper.op=true){v:V}{bf:List (Nat×Ob)}
  (h:act cf nn d t o (.not x)=some (v,bf)):eE P F Pr w0 lb N n' t o a w oper v bf:=by
 simp only[act,ab,ah] at h;obtain⟨b,hb,rfl,rfl⟩:=h;cases hop:oper.op with
 |unOp u ty y=>
  rw[hop] at hok;cases u<;>simp only[bq,av] at hok
  exact aJ R hn.cU (val:= .bool !b) (by simp[execOp,hop,dI R hok hb,Op.unary]) (.c _ _ (.bool _))
 |_=>rw[hop] at hok;simp[bq] at hok
theorem qt(R:Rel F Pr w0 lb N E n t o a w){nn:Nat}{n':Nat→Prop}(hn:Fr n nn n'){cf:ay}{d:Nat}{x:O}{oper:Oper}(hok:bq P F (.neg x) oper.op=true){v:V}{bf:List (Nat×Ob)}
  (h:act cf nn d t o (.neg x)=some (v,bf)):eE P F Pr w0 lb N n' t o a w oper v bf:=by
 simp only[act,ab,ah] at h;obtain⟨⟨k,i⟩,hb,rfl,rfl⟩:=h;cases hop:oper.op with
 |unOp u ty y=>
  rw[hop] at hok;cases u<;>simp only[bq,av] at hok
  exact aJ R hn.cU (val:= .int k (k.wrap (0-i))) (by simp[execOp,hop,jE R hok hb,Op.unary,Op.intArith]) (.c _ _ (.int _ _))
 |_=>rw[hop] at hok;simp[bq] at hok
theorem qA(R:Rel F Pr w0 lb N E n t o a w){nn:Nat}{n':Nat→Prop}(hn:Fr n nn n'){cf:ay}{d:Nat}{k:IntKind}{x:O}{oper:Oper}(hok:bq P F (.lQ k x) oper.op=true){v:V}{bf:List (Nat×Ob)}
  (h:act cf nn d t o (.lQ k x)=some (v,bf)):eE P F Pr w0 lb N n' t o a w oper v bf:=by
 simp only[act,ab,ah] at h;obtain⟨⟨k',i⟩,hb,rfl,rfl⟩:=h;cases hop:oper.op with
 |convert s e y=>
  rw[hop] at hok;simp only[bq,ae,Option.isSome_iff_exists] at hok;obtain⟨⟨hd,ds,hs⟩,hx⟩:=hok;exact aJ R hn.cU (val:= .int k (k.wrap i)) (by simp[execOp,hop,jE R hx hb,convert,run_underlying (il hd),run_underlying hs,Conv.intToInt]) (.c _ _ (.int _ _))
 |_=>rw[hop] at hok;simp[bq] at hok
theorem qC(R:Rel F Pr w0 lb N E n t o a w){nn:Nat}{n':Nat→Prop}(hn:Fr n nn n'){cf:ay}{d i:Nat}{x:O}{oper:Oper}(hok:bq P F (.ext i x) oper.op=true){v:V}{bf:List (Nat×Ob)}
  (h:act cf nn d t o (.ext i x)=some (v,bf)):eE P F Pr w0 lb N n' t o a w oper v bf:=by
 cases hop:oper.op with
 |extract y j=>
  rw[hop] at hok;simp only[bq,ae,beq_iff_eq] at hok;obtain⟨rfl,hx⟩:=hok;simp only[act] at h;split at h
  ·rename_i vs hvs;simp only[ab,ah] at h;obtain⟨u,hu,rfl,rfl⟩:=h;have hr:=cm R hx hvs;generalize hg:a.eval y=val at hr;cases hr with
   |fW _ xs hnn hh=>
    have hlt:i<xs.size:=by rw[←hnn];exact(List.getElem?_eq_some_iff.1 hu).1
    exact aJ R hn.cU (val:=xs[i]) (by simp[execOp,hop,hg,Instr.extract,hlt]) (hh i _ _ hu (by simp[hlt]))
  ·cases h
 |_=>rw[hop] at hok;simp[bq] at hok
theorem o2(R:Rel F Pr w0 lb N E n t o a w){nn:Nat}{n':Nat→Prop}(hn:Fr n nn n'){cf:ay}{d:Nat}{x:O}{oper:Oper}(hok:bq P F (.fD x) oper.op=true){v:V}{bf:List (Nat×Ob)}
  (h:act cf nn d t o (.fD x)=some (v,bf)):eE P F Pr w0 lb N n' t o a w oper v bf:=by
 cases hop:oper.op with
 |nilCheck y=>
  rw[hop] at hok;simp only[act] at h;split at h<;>first|(cases h;done)|skip
  all_goals
   rename_i hl;cases h;have hr:=aX R hok hl;generalize hg:a.eval y=val at hr;refine aJ R hn.cU (val:=val) ?_ (.c _ _ hr);cases hr<;>simp[execOp,hop,hg]
 |_=>rw[hop] at hok;simp[bq] at hok
end Mx
namespace Mx
open Go
variable {P:Program} {F:Nat→FuncId} {Pr:Nat→Prop} {w0:World} {lb:Lb} {N:Nat} {E:Nat→Option Loc} {n:Nat→Prop} {t:List (Nat×V)} {o:List (Nat×Ob)} {a:Act} {w:World}
theorem nD(R:Rel F Pr w0 lb N E n t o a w){nn:Nat}{n':Nat→Prop}(hn:Fr n nn n'){cf:ay}{d off:Nat}{x:O}{oper:Oper}(hok:bq P F (.fI off x) oper.op=true){v:V}{bf:List (Nat×Ob)}
  (h:act cf nn d t o (.fI off x)=some (v,bf)):eE P F Pr w0 lb N n' t o a w oper v bf:=by
 cases hop:oper.op with
 |fieldAddr s y f=>
  rw[hop] at hok;simp only[bq] at hok;split at hok
  ·rename_i fs hfs;split at hok
   ·rename_i fd hfd;split at hok
    ·rename_i k hk;simp only[ae,beq_iff_eq,bne_iff_ne,ne_eq] at hok;obtain⟨⟨rfl,hk0⟩,hx⟩:=hok;have hrun:∀ad,(Instr.fieldAt s (.pointer (some ad)) f).run P w= .ok (.pointer (some (ad.add fd.offset))) w:=by
      intro ad;simp[Instr.fieldAt,run_underlying (eb hfs),hfd,Instr.sureAddr,fieldPlace,bu hk,hk0]
     simp only[act] at h;split at h<;>first|(cases h;done)|skip
     ·rename_i id aw i j hl;cases h;have hr:=aX R hx hl;generalize hg:a.eval y=val at hr;cases hr with
      |ptr _ _ _ _ b cap sz hE=>
       refine aJ R hn.cU (val:= .pointer (some (((bI b).add (i*sz+j)).add fd.offset))) ?_ (.c _ _ ?_)
       ·simp only[execOp,hop,hg,Sem.run_bind,hrun];rfl
       ·rw[add_add,Nat.add_assoc];exact .ptr id aw i (j+fd.offset) b cap sz hE
     ·rename_i cells j hl;cases h;have hr:=aX R hx hl;generalize hg:a.eval y=val at hr;cases hr with
      |vp _ _ ad vs hcell hrep hcl=>
       refine aJ R hn.cU (val:= .pointer (some (ad.add fd.offset))) ?_ (.c _ _ ?_)
       ·simp only[execOp,hop,hg,Sem.run_bind,hrun];rfl
       ·refine .vp cells (j+fd.offset) _ (fun q=>vs (fd.offset+q)) ?_ ?_ (fun q t ht=>hcl (fd.offset+q) t (by rw[←Nat.add_assoc];exact ht))
        ·intro q t ht;rw[Nat.add_assoc] at ht;obtain⟨h1,h2⟩:=hcell _ t ht;exact⟨by rw[bZ];exact h1,by rw[add_add];exact h2⟩
        ·intro q t ht;rw[Nat.add_assoc] at ht;exact hrep _ t ht
    ·simp at hok
   ·cases hok
  ·cases hok
 |_=>rw[hop] at hok;simp[bq] at hok
theorem gP{ty e:TypeId}{sz:Nat}(hs:bF P ty=some e)(hsz:cj P e=some sz){ad:Addr}{len c i:Nat}{k:IntKind}(hi:i<len):
  (Instr.indexAt ty (.slice (some ad) len c) (.int k (i:Int))).run P w= .ok (.pointer (some (ad.add (i*sz)))) w:=by
 have h1:(0:Int)≤i∧(i:Int)<len:=by omega
 simp[Instr.indexAt,asIntOf,run_underlying (bU hs),bu hsz,hi]
theorem nC(R:Rel F Pr w0 lb N E n t o a w){nn:Nat}{n':Nat→Prop}(hn:Fr n nn n'){cf:ay}{d sz:Nat}{x ix:O}{oper:Oper}(hok:bq P F (.dB sz x ix) oper.op=true){v:V}{bf:List (Nat×Ob)}
  (h:act cf nn d t o (.dB sz x ix)=some (v,bf)):eE P F Pr w0 lb N n' t o a w oper v bf:=by
 cases hop:oper.op with
 |indexAddr ty y iy=>
  rw[hop] at hok;simp only[bq] at hok;split at hok
  ·rename_i e he;simp only[ae,beq_iff_eq,decide_eq_true_eq] at hok;obtain⟨⟨⟨hsz,hpos⟩,hx⟩,hix⟩:=hok;simp only[act] at h;split at h
   ·rename_i id aw off len i hl hi;split at h
    ·rename_i ob hg;split at h
     ·rename_i hc;cases h;obtain⟨hver,hsz2,hbx,hlt⟩:=hc;obtain⟨k,hk⟩:=da R hix hi;have hr:=aX R hx hl;generalize hv:a.eval y=val at hr;cases hr with
      |row _ _ _ _ cap sz' b hE hfit ho=>
       refine aJ R hn.cU (val:= .pointer (some (((bI b).add (off*sz')).add (i*sz)))) ?_ (.c _ _ ?_)
       ·simp only[execOp,hop,hv,hk,Sem.run_bind,gP he hsz hlt];rfl
       ·obtain⟨e1,_⟩:=cH R hg hver hE;subst e1;have:=bN.ptr (X:=cx F Pr E o w) id aw (off+i) 0 b cap ob.sz hE;rw[add_add,←hsz2,show off*ob.sz+i*ob.sz=(off+i)*ob.sz+0 from by rw[Nat.add_mul];rfl];exact this
      |dE=>omega
     ·cases h
    ·cases h
   ·rename_i own sz' rows i hl hi;split at h
    ·rename_i hs;subst hs;simp only[ab,ah] at h;obtain⟨r,hr0,rfl,rfl⟩:=h;obtain⟨k,hk⟩:=da R hix hi;have hr:=aX R hx hl;generalize hv:a.eval y=val at hr;cases hr with
     |sl _ _ _ A c vs hc hwid hcell hrep hcl=>
      have hw:=hwid i r hr0;have hlt:i<rows.length:=(List.getElem?_eq_some_iff.1 hr0).1;have h0:0<r.length:=by omega
      obtain⟨ad,rfl,_,_⟩:=hcell i 0 r r[0] hr0 (by simp[h0]);refine aJ R hn.cU (val:= .pointer (some (ad.add (i*sz')))) ?_ (.c _ _ ?_)
      ·simp only[execOp,hop,hv,hk,Sem.run_bind,gP he hsz hlt];rfl
      ·refine .vp r 0 _ (fun q=>vs i q) ?_ ?_ (fun q t ht=>hcl i q r t hr0 (by simpa using ht))
       ·intro q t ht;rw[Nat.zero_add] at ht;obtain⟨ad',had,h1,h2⟩:=hcell i q r t hr0 ht;cases had;exact⟨by rw[bZ];exact h1,by rw[add_add];exact h2⟩
       ·intro q t ht;rw[Nat.zero_add] at ht;exact hrep i q r t hr0 ht
    ·cases h
   ·cases h
  ·cases hok
 |_=>rw[hop] at hok;simp[bq] at hok
theorem nB(R:Rel F Pr w0 lb N E n t o a w){nn:Nat}{n':Nat→Prop}(hn:Fr n nn n'){cf:ay}{d k:Nat}{x y:O}{oper:Oper}(hok:bq P F (.store k x y) oper.op=true){v:V}{bf:List (Nat×Ob)}
  (hcl:∀{ts us:List T} {vs:List Value},bB (cl o) ts=some us→bw (cx F Pr E o w) ts vs→bw (cx F Pr E o w) us vs∧∀(i:Nat) (t:T),us[i]? =some t→a7 t)
  (h:act cf nn d t o (.store k x y)=some (v,bf)):eE P F Pr w0 lb N n' t o a w oper v bf:=by
 cases hop:oper.op with
 |store ty x' y'=>
  rw[hop] at hok;simp only[bq,ae,beq_iff_eq] at hok;obtain⟨⟨hx,hy⟩,hsz⟩:=hok;simp only[act] at h;split at h
  ·rename_i id aw i j cs hl hc;split at h
   ·rename_i ob hg;split at h
    ·rename_i hcond;obtain⟨hver,hw,hk⟩:=hcond;split at h
     ·rename_i r cs' hr hcs;split at h
      ·rename_i hfit;cases h;have hp:=aX R hx hl;generalize hv:a.eval x'=val at hp;cases hp with
       |ptr _ _ _ _ b cap sz hE=>
        obtain⟨e1,hob⟩:=cH R hg hver hE;have hrepc:=dJ R hy hc;have hlen:cs'.length=cs.length∧bw (cx F Pr E o w) cs' (a.eval y').cells.toList∧(ob.bx=false→∀(i:Nat) (t:T),cs'[i]? =some t→a7 t):=by
         split at hcs
         ·rename_i hb;cases hcs;exact⟨rfl,hrepc,fun q=>by rw[hb] at q;cases q⟩
         ·have:=hcl hcs hrepc;exact⟨by rw[this.1.1,hrepc.1],this.1,fun _=>this.2⟩
        subst e1;have hE2:E ob.aw=some (.cK b cap ob.sz):=by rw[hver];exact hE
        obtain⟨_,hl3,hwid,_,cells,e,fr,m1,m2,m3,m4⟩:=cH R hg rfl hE2;have m1':w.heap[b]? =some (.cells cells e fr):=m1;have hrl:=hwid i r hr;have hil:i<ob.rows.length:=(List.getElem?_eq_some_iff.1 hr).1;have hfit2:i*ob.sz+j+0+(a.eval y').cells.toList.length≤cells.size:=by
         rw[m2,←hlen.2.1.1];have:(i+1)*ob.sz≤cap*ob.sz:=aU _ (by omega);rw[Nat.add_mul,Nat.one_mul] at this;omega
        obtain⟨w',_,g1,_⟩:=bQ (P:=P) (a.eval y').cells.toList 0 (i*ob.sz+j) cells w m1' hfit2 m3 hlen.2.1.one;obtain⟨R2,K⟩:=R.write hg hw hE2 hr hfit hlen.2.1 hlen.2.2 g1;refine⟨undef,w',E,.inr ⟨?_,rfl⟩,R2.same rfl rfl rfl rfl hn.cU,.undef _ (by intro b h;cases h)⟩;have hcs2:(a.eval y').cells.size=k:=by have:=hrepc.1;simp at this;omega
        simp only[execOp,hop,hv,Instr.storeAt,Instr.sureAddr,storeVar,Sem.run_bind,Sem.run_pure,Result.andThen_ok,bu hsz,hcs2,ne_eq,not_true_eq_false,if_false,g1]
      ·cases h
     ·cases h
    ·cases h
   ·cases h
  ·cases h
 |_=>rw[hop] at hok;simp[bq] at hok
theorem mg(R:Rel F Pr w0 lb N E n t o a w){id aw off len:Nat}{ob:Ob}{v:Value}(hg:get o id=some ob)(hver:ob.aw=aw)(hfit:off+len≤ob.rows.length)(hw:ob.w=false)
  (hbx:ob.bx=false) (hr:bN (cx F Pr E o w) (.row id aw off len) v):bN (cx F Pr E o w) (.sl false ob.sz ((ob.rows.drop off).take len)) v:=by
 cases hr with
 |row _ _ _ _ cap sz b hE hl ho=>
  obtain⟨e1,h1,h2,hcl,cs,e,fr,m1,m2,m3,m4⟩:=cH R hg hver hE;subst e1;have hlen:((ob.rows.drop off).take len).length=len:=by simp;omega
  have m1':w.heap[b]? =some (.cells cs e fr):=m1;have key:∀(i j:Nat) (r:List T) (t:T),((ob.rows.drop off).take len)[i]? =some r→r[j]? =some t→∃v,cs[(off+i)*ob.sz+j]? =some v∧bN (cx F Pr E o w) t v:=by
   intro i j r t hr ht;rw[aO] at hr;split at hr
   ·rw[bp] at hr;exact m4 _ _ r t hr ht
   ·cases hr
  have hnu:¬(cx F Pr E o w).U b:=by
   rintro (⟨id',ob',cap',sz',g1,g2,g3⟩|hpr);rotate_left
   ·have h1:=R.pr.1 b hpr;rcases (R.place id ob b cap ob.sz hg (by rw[hver];exact hE)).2 with q|q
    ·omega
    ·exact h1.2 q
   have:=R.d_ id id' ob ob' b cap ob.sz cap' sz' hg g1 (by rw[hver];exact hE) g3;subst this;rw[hg] at g1;cases g1;rw[hw] at g2;cases g2
  have:bN (cx F Pr E o w) (.sl false ob.sz ((ob.rows.drop off).take len)) (.slice (some ((bI b).add (off*ob.sz))) ((ob.rows.drop off).take len).length (cap-off)):=by
   refine .sl false ob.sz _ _ _ (fun i j=>cs.getD ((off+i)*ob.sz+j) undef) ?_ ?_ ?_ ?_ ?_
   ·rw[hlen];omega
   ·intro i r hr;rw[aO] at hr;split at hr
    ·rw[bp] at hr;exact h2 _ r hr
    ·cases hr
   ·intro i j r t hr ht;obtain⟨v,hv,_⟩:=key i j r t hr ht;refine⟨_,rfl,by rw[bZ];exact hnu, ?_⟩;rw[add_add,dr];show w.cell? _=_;simp only[World.cell?,m1',Option.isSome_none,av,if_false,aI];rw[show off*ob.sz+(i*ob.sz+j)=(off+i)*ob.sz+j from by rw[Nat.add_mul];omega,hv];rfl
   ·intro i j r t hr ht;obtain⟨v,hv,hrep⟩:=key i j r t hr ht;simp only[aI,hv,cw];exact hrep
   ·intro i j r t hr ht;rw[aO] at hr;split at hr
    ·rw[bp] at hr;exact hcl hbx _ j r t hr ht
    ·cases hr
  rw[hlen] at this;exact this
 |dE _ _ hE=>
  have:=bN.sl (X:=cx F Pr E o w) false ob.sz [] none 0 (fun _ _=>undef) (by simp) (fun i r h=>by simp at h) (fun i j r t h=>by simp at h) (fun i j r t h=>by simp at h) (fun i j r t h=>by simp at h);simpa using this
theorem jh(R:Rel F Pr w0 lb N E n t o a w){x y:T}{v:Value}(h:cl o x=some y)(hr:bN (cx F Pr E o w) x v):bN (cx F Pr E o w) y v:=by
 cases x with
 |ptr=>simp[cl] at h
 |vp=>simp[cl] at h
 |fn=>simp[cl] at h
 |int k m=>simp[cl,wr,fN] at h;subst h;exact hr
 |bool b=>simp[cl,wr,fN] at h;subst h;exact hr
 |str s=>simp[cl,wr,fN] at h;subst h;exact hr
 |dm sz=>
  simp[cl,wr,fN] at h;subst h;cases hr;exact .sl false _ [] none 0 (fun _ _=>undef) (by simp) (fun i r h=>by simp at h) (fun i j r t h=>by simp at h) (fun i j r t h=>by simp at h) (fun i j r t h=>by simp at h)
 |sl own sz rows=>simp[cl,wr,fN] at h;subst h;cases hr with|sl _ _ _ A c vs h1 h2 h3 h4 h5=>exact .sl false _ _ A c vs h1 h2 h3 h4 h5
 |row id aw off len=>
  simp only[cl] at h;split at h
  ·rename_i hwr;simp only[fN] at h;split at h
   ·rename_i ob hg;split at h
    ·rename_i hc;cases h;obtain⟨hver,hbx,hfit⟩:=hc;have hw:ob.w=false:=by
      simp only[wr,hg] at hwr;cases hq:ob.w
      ·rfl
      ·simp[hq] at hwr
     exact mg R hg hver hfit hw hbx hr
    ·cases h
   ·cases h
  ·cases h
theorem fA(R:Rel F Pr w0 lb N E n t o a w){x y:T}{v:Value}(h:cl o x=some y)(hr:bN (cx F Pr E o w) x v):a7 y:=by
 cases x with
 |ptr=>simp[cl] at h
 |vp=>simp[cl] at h
 |fn=>simp[cl] at h
 |int k m=>simp[cl,wr,fN] at h;subst h;exact .int _ _
 |bool b=>simp[cl,wr,fN] at h;subst h;exact .bool _
 |str s=>simp[cl,wr,fN] at h;subst h;exact .str _
 |dm sz=>simp[cl,wr,fN] at h;subst h;exact .sl _ _ _ (fun i j r t h=>by simp at h)
 |sl own sz rows=>simp[cl,wr,fN] at h;subst h;cases hr with|sl _ _ _ A c vs h1 h2 h3 h4 h5=>exact .sl _ _ _ h5
 |row id aw off len=>
  have:=jh R h hr;simp only[cl] at h;split at h
  ·simp only[fN] at h;split at h
   ·split at h
    ·cases h;cases this with|sl _ _ _ A c vs h1 h2 h3 h4 h5=>exact .sl _ _ _ h5
    ·cases h
   ·cases h
  ·cases h
theorem kq(R:Rel F Pr w0 lb N E n t o a w):∀{ts us:List T} {vs:List Value},bB (cl o) ts=some us→bw (cx F Pr E o w) ts vs→bw (cx F Pr E o w) us vs
 |[],us,vs,h,hr=>by simp[bB] at h;subst h;exact hr
 |x::ts,us,vs,h,hr=>by
  simp only[bB] at h;split at h
  ·rename_i y ys hy hys;cases h;obtain⟨v,vs',rfl,h1,h2⟩:=hr.iD;exact .cons (jh R hy h1) (kq R hys h2)
  ·cases h
theorem fS(R:Rel F Pr w0 lb N E n t o a w):∀{ts us:List T} {vs:List Value},bB (cl o) ts=some us→bw (cx F Pr E o w) ts vs→∀(i:Nat) (t:T),us[i]? =some t→a7 t
 |[],us,vs,h,hr,i,t,hi=>by simp[bB] at h;subst h;simp at hi
 |x::ts,us,vs,h,hr,i,t,hi=>by
  simp only[bB] at h;split at h
  ·rename_i y ys hy hys;cases h;obtain⟨v,vs',rfl,h1,h2⟩:=hr.iD;cases i with
   |zero=>simp at hi;subst hi;exact fA R hy h1
   |succ i=>exact fS R hys h2 i t (by simpa using hi)
  ·cases h
theorem qz(R:Rel F Pr w0 lb N E n t o a w){nn:Nat}{n':Nat→Prop}(hn:Fr n nn n'){cf:ay}{d:Nat}{x ix:O}{oper:Oper}(hok:bq P F (.idx x ix) oper.op=true){v:V}{bf:List (Nat×Ob)}
  (h:act cf nn d t o (.idx x ix)=some (v,bf)):eE P F Pr w0 lb N n' t o a w oper v bf:=by
 cases hop:oper.op with
 |index ty y iy=>
  rw[hop] at hok;simp only[bq,ae] at hok;obtain⟨⟨hs,hx⟩,hix⟩:=hok;simp only[act] at h;split at h
  ·rename_i s i hl hi;split at h
   ·rename_i hlt;cases h;obtain⟨k,hk⟩:=da R hix hi;have hr:=(aX R hx hl).eG;refine aJ R hn.cU (val:= .int .u8 (s[i]'hlt).toNat) ?_ (.c _ _ (.int _ _));have:(Instr.index ty (.string s) (.int k (i:Int))).run P w= .ok (.int .u8 (s[i]'hlt).toNat) w:=by
     have hg:s[(i:Int).toNat]? =some (s[i]'hlt):=by rw[dT];exact getElem?_pos s i hlt
     have h0:(0:Int)≤i:=by omega
     simp only[Instr.index,asIntOf,Sem.run_bind,Sem.run_pure,Result.andThen_ok,run_underlying (fz hs),if_pos h0,hg]
    simp only[execOp,hop,hr,hk,Sem.run_bind,this];rfl
   ·cases h
  ·cases h
 |_=>rw[hop] at hok;simp[bq] at hok
theorem nA{α:Type}{as:Array α}{x:α}(h:as.toList=[x]):as= #[x]:=by cases as;simp_all
theorem nz{α:Type}{as:Array α}{x y:α}(h:as.toList=[x,y]):as= #[x,y]:=by cases as;simp_all
theorem qy(R:Rel F Pr w0 lb N E n t o a w){nn:Nat}{n':Nat→Prop}(hn:Fr n nn n'){cf:ay}{d:Nat}{x:O}{oper:Oper}{c:Call}(hop:oper.op= .call c)(hok:fF P F (.len x) c=true){v:V}{bf:List (Nat×Ob)}
  (h:act cf nn d t o (.len x)=some (v,bf)):eE P F Pr w0 lb N n' t o a w oper v bf:=by
 obtain⟨cal,as,ats⟩:=c;cases cal with
 |value=>simp[fF] at hok
 |invoke=>simp[fF] at hok
 |builtin b=>
 simp only[fF] at hok;obtain⟨y,ty,rfl,h1,h2,hx,e,he⟩:=pO hok;have h1:=nA h1;have h2:=nA h2;subst h1 h2
 ·simp only[act] at h;split at h
  ·rename_i z hz;simp only[ab,ah] at h;obtain⟨m,hm,rfl,rfl⟩:=h;have hr:=aX R hx hz;refine aJ R hn.cU (val:= .int .i64 m) ?_ (.c _ _ (.int _ _));have:(Builtin.len_ #[ty] oper.type #[a.eval y]).run P w= .ok (.int .i64 m) w:=by
    generalize hv:a.eval y=val at hr;cases z<;>simp only[lenOf,af,reduceCtorEq] at hm
    ·subst hm;cases hr;simp[Builtin.len_,run_underlying (bU he),goInt]
    ·subst hm;cases hr;simp[Builtin.len_,run_underlying (bU he),goInt]
    ·subst hm;cases hr<;>simp[Builtin.len_,run_underlying (bU he),goInt]
   simp[execOp,hop,resolve,invoke,builtin,this]
  ·cases h
theorem oV(R:Rel F Pr w0 lb N E n t o a w){nn:Nat}{n':Nat→Prop}(hn:Fr n nn n'){cf:ay}{d:Nat}{x:O}{oper:Oper}{c:Call}(hop:oper.op= .call c)(hok:fF P F (.fC x) c=true){v:V}{bf:List (Nat×Ob)}
  (h:act cf nn d t o (.fC x)=some (v,bf)):eE P F Pr w0 lb N n' t o a w oper v bf:=by
 obtain⟨cal,as,ats⟩:=c;cases cal with
 |value=>simp[fF] at hok
 |invoke=>simp[fF] at hok
 |builtin b=>
 simp only[fF] at hok;obtain⟨y,ty,rfl,h1,h2,hx,he⟩:=n6 hok;have h1:=nA h1;have h2:=nA h2;subst h1 h2
 ·simp only[act] at h;split at h
  ·rename_i s hz;cases h;have hr:=(aX R hx hz).eG;refine aJ R hn.cU (val:= .int .i64 s.size) ?_ (.c _ _ (.int _ _));have:(Builtin.len_ #[ty] oper.type #[a.eval y]).run P w= .ok (.int .i64 s.size) w:=by
    simp[Builtin.len_,run_underlying (fz he),goInt,hr]
   simp[execOp,hop,resolve,invoke,builtin,this]
  ·cases h
theorem qB(R:Rel F Pr w0 lb N E n t o a w){nn:Nat}{n':Nat→Prop}(hn:Fr n nn n'){cf:ay}{d off k:Nat}{agg:Bool}{x:O}{oper:Oper}(hok:bq P F (.p5 agg off k x) oper.op=true){v:V}{bf:List (Nat×Ob)}
  (h:act cf nn d t o (.p5 agg off k x)=some (v,bf)):eE P F Pr w0 lb N n' t o a w oper v bf:=by
 cases hop:oper.op with
 |field ty y f=>
  rw[hop] at hok;simp only[bq] at hok;split at hok
  ·rename_i fs hfs;split at hok
   ·rename_i fd hfd;simp only[ae,beq_iff_eq] at hok;obtain⟨⟨⟨rfl,hagg⟩,hk⟩,hx⟩:=hok;simp only[act] at h;split at h
    ·rename_i cs hcs;have hr:=cm R hx hcs;generalize hv:a.eval y=val at hr;cases hr with
     |a _ xs hlen hrep=>
      have hL:bw (cx F Pr E o w) cs xs.toList:=⟨by simpa using hlen,fun i t v h1 h2=>hrep i t v h1 (by simpa using h2)⟩;split at h
      ·rename_i hagg2;split at h
       ·rename_i hfit;cases h;refine aJ R hn.cU (val:= .agg (xs.extract fd.offset (fd.offset+k))) ?_ ?_
        ·simp[execOp,hop,hv,Instr.field,run_underlying (eb hfs),hfd,asAgg,part,cM (hagg.trans (by rw[hagg2])),bu hk]
        ·have:=(hL.drop fd.offset).take k;have h2:=bW.rH this;rw[show (List.take k (List.drop fd.offset xs.toList)).toArray=xs.extract fd.offset (fd.offset+k) from by
          apply Array.ext';simp[List.take_drop,Nat.add_comm]] at h2
         exact h2
       ·cases h
      ·rename_i hagg2;simp only[ab,ah] at h;obtain⟨c,hc,rfl,rfl⟩:=h;have hlt:fd.offset<xs.size:=by rw[←hlen];exact(List.getElem?_eq_some_iff.1 hc).1
       refine aJ R hn.cU (val:=xs[fd.offset]) ?_ (.c _ _ (hrep _ _ _ hc (by simp[hlt])));have hagg3:df P fd.type=some false:=by rw[hagg];cases agg<;>simp_all
       simp[execOp,hop,hv,Instr.field,run_underlying (eb hfs),hfd,asAgg,part,cM hagg3,hlt]
    ·cases h
   ·cases hok
  ·cases hok
 |_=>rw[hop] at hok;simp[bq] at hok
theorem iU(R:Rel F Pr w0 lb N E n t o a w):∀{xs:List O} {ys:List Operand} {ts:List T},ia F xs ys=true→bB (bK t) xs=some ts→bw (cx F Pr E o w) ts (ys.map a.eval)
 |[],[],ts,_,h=>by simp[bB] at h;subst h;exact .nil _
 |x::xs,y::ys,ts,hok,h=>by
  simp only[ia,ae] at hok;simp only[bB] at h;split at h
  ·rename_i u us h1 h2;cases h;exact .cons (aX R hok.1 h1) (iU R hok.2 h2)
  ·cases h
 |[],_::_,_,hok,_=>by simp[ia] at hok
 |_::_,[],_,hok,_=>by simp[ia] at hok
theorem o3(R:Rel F Pr w0 lb N E n t o a w){nn:Nat}{n':Nat→Prop}(hn:Fr n nn n'){cf:ay}{d f:Nat}{caps:List O}{oper:Oper}(hok:bq P F (.lL f caps) oper.op=true){v:V}{bf:List (Nat×Ob)}
  (h:act cf nn d t o (.lL f caps)=some (v,bf)):eE P F Pr w0 lb N n' t o a w oper v bf:=by
 cases hop:oper.op with
 |makeFunc g first captured=>
  rw[hop] at hok;cases g with
  |func g=>
   simp only[bq,ae,beq_iff_eq] at hok;obtain⟨⟨rfl,hfirst⟩,hcaps⟩:=hok;simp only[act,ab,ah] at h;obtain⟨cs,hcs,rfl,rfl⟩:=h;have hL:=iU R hcaps hcs;have hf0:first= #[]:=by simpa using hfirst
   subst hf0;refine aJ R hn.cU (val:= .func (.func (F f)) #[] (captured.map a.eval)) (by simp[execOp,hop,Instr.makeFunc]) (.c _ _ ?_);have:=bN.fn (X:=cx F Pr E o w) f cs (captured.map a.eval) (by have:=hL.1;simpa using this) (fun i t v h1 h2=>hL.2 i t v h1 (by simpa [bJ] using h2));exact this
  |_=>simp[bq] at hok
 |_=>rw[hop] at hok;simp[bq] at hok
theorem cN(R:Rel F Pr w0 lb N E n t o a w){x:Option O}{y:Option Operand}{dflt m:Nat}(hok:jt F x y=true)(h:h_ t dflt x=some m):
  (y=none∧m=dflt∧x=none)∨∃y' k,y=some y'∧a.eval y'= .int k (m:Int)∧x.isSome:=by
 cases x with
 |none=>cases y with
  |none=>simp[h_] at h;exact .inl ⟨rfl,h.symm,rfl⟩
  |some y=>simp[jt] at hok
 |some x=>cases y with
  |none=>simp[jt] at hok
  |some y=>obtain⟨k,hk⟩:=da R hok h;exact .inr ⟨y,k,rfl,hk,rfl⟩
theorem run_sliceBound{m y:Nat}{k:IntKind}{code:BoundsCode}(h:m≤y):(Instr.sliceBound (.int k (m:Int)) y code).run P w= .ok m w:=by
 have:(0:Int)≤m∧(m:Int)≤y:=by omega
 simp[Instr.sliceBound,asIntOf,this]
theorem oU(R:Rel F Pr w0 lb N E n t o a w){nn:Nat}{n':Nat→Prop}(hn:Fr n nn n'){cf:ay}{d:Nat}{x:O}{lo hi:Option O}{oper:Oper}(hok:bq P F (.iI x lo hi) oper.op=true){v:V}{bf:List (Nat×Ob)}
  (h:act cf nn d t o (.iI x lo hi)=some (v,bf)):eE P F Pr w0 lb N n' t o a w oper v bf:=by
 cases hop:oper.op with
 |slice ty y lo' hi' mx'=>
  rw[hop] at hok;cases mx' with
  |some _=>simp[bq] at hok
  |none=>
   simp only[bq,ae] at hok;obtain⟨⟨⟨hs,hx⟩,hlo⟩,hhi⟩:=hok;simp only[act] at h;split at h
   ·rename_i s hl;split at h
    ·rename_i l u h1 h2;split at h
     ·rename_i hc;cases h;have hr:=(aX R hx hl).eG;refine aJ R hn.cU (val:= .string (s.extract l u)) ?_ (.c _ _ (.str _));have hb:(Instr.sliceBounds false s.size s.size (lo'.map a.eval) (hi'.map a.eval) none).run P w= .ok (l,u,s.size) w:=by
       rcases cN R hlo h1 with⟨rfl,rfl,_⟩|⟨y1,k1,rfl,e1,_⟩<;>rcases cN R hhi h2 with⟨rfl,rfl,_⟩|⟨y2,k2,rfl,e2,_⟩
       ·simp[Instr.sliceBounds]
       ·simp[Instr.sliceBounds,e2,run_sliceBound hc.2]
       ·simp[Instr.sliceBounds,e1,run_sliceBound hc.1]
       ·simp[Instr.sliceBounds,e1,e2,run_sliceBound hc.1,run_sliceBound hc.2]
      simp[execOp,hop,hr,Instr.sliceAt,run_underlying (fz hs),Instr.slice,hb]
     ·cases h
    ·cases h
   ·cases h
 |_=>rw[hop] at hok;simp[bq] at hok
theorem bN.empty{X:Cx}(own:Bool)(sz:Nat)(A:Option Addr)(c:Nat):bN X (.sl own sz []) (.slice A 0 c):=
 .sl own sz [] A c (fun _ _=>undef) (by simp) (fun i r h=>by simp at h) (fun i j r t h=>by simp at h) (fun i j r t h=>by simp at h) (fun i j r t h=>by simp at h)
theorem qo(R:Rel F Pr w0 lb N E n t o a w){nn:Nat}{n':Nat→Prop}(hn:Fr n nn n'){cf:ay}{d sz:Nat}{x:O}{lo hi mx:Option O}{oper:Oper}(hok:bq P F (.qO sz x lo hi mx) oper.op=true){v:V}{bf:List (Nat×Ob)}
  (h:act cf nn d t o (.qO sz x lo hi mx)=some (v,bf)):eE P F Pr w0 lb N n' t o a w oper v bf:=by
 cases hop:oper.op with
 |slice ty y lo' hi' mx'=>
  rw[hop] at hok;simp only[bq] at hok;split at hok
  ·rename_i e he;simp only[ae,beq_iff_eq] at hok;obtain⟨⟨⟨⟨⟨hsz,hx⟩,hlo⟩,hhi⟩,hmx⟩,hmh⟩:=hok;simp only[act] at h;split at h
   ·rename_i z hz;split at h
    ·rename_i len hlen;split at h
     ·rename_i l u m h1 h2 h3;split at h
      ·rename_i hc;have hr:=aX R hx hz;generalize hv:a.eval y=val at hr;have hshape:∃A c,val= .slice A len c∧len≤c:=by
        cases z<;>simp only[lenOf,af,reduceCtorEq] at hlen
        ·subst hlen;cases hr;exact⟨_,_,rfl,Nat.le_refl _⟩
        ·subst hlen;cases hr;exact⟨_,_,rfl,by assumption⟩
        ·subst hlen;cases hr
         ·exact⟨_,_,rfl,by omega⟩
         ·exact⟨_,_,rfl,Nat.le_refl _⟩
       obtain⟨A,c,rfl,hlc⟩:=hshape;have hb:∃m',u≤m'∧(mx=none→m'=c)∧(Instr.sliceBounds true len c (lo'.map a.eval) (hi'.map a.eval) (mx'.map a.eval)).run P w= .ok (l,u,m') w:=by
        rcases cN R hmx h3 with⟨rfl,rfl,rfl⟩|⟨y3,k3,rfl,e3,e4⟩
        ·refine⟨c,by omega,fun _=>rfl, ?_⟩;rcases cN R hlo h1 with⟨rfl,rfl,_⟩|⟨y1,k1,rfl,e1,_⟩<;>rcases cN R hhi h2 with⟨rfl,rfl,_⟩|⟨y2,k2,rfl,e2,_⟩
         ·simp[Instr.sliceBounds]
         ·simp[Instr.sliceBounds,e2,run_sliceBound (show u≤c by omega)]
         ·simp[Instr.sliceBounds,e1,run_sliceBound (show l≤u by omega)]
         ·simp[Instr.sliceBounds,e1,e2,run_sliceBound (show l≤u by omega),run_sliceBound (show u≤c by omega)]
        ·refine⟨m,by omega,fun q=>by rw[q] at e4;simp at e4, ?_⟩;rcases cN R hhi h2 with⟨rfl,rfl,rfl⟩|⟨y2,k2,rfl,e2,_⟩
         ·simp at hmh;rw[hmh] at e4;simp at e4
         ·rcases cN R hlo h1 with⟨rfl,rfl,_⟩|⟨y1,k1,rfl,e1,_⟩
          ·simp[Instr.sliceBounds,e2,e3,run_sliceBound (show u≤m by omega),run_sliceBound (show m≤c by omega)]
          ·simp[Instr.sliceBounds,e1,e2,e3,run_sliceBound (show l≤u by omega),run_sliceBound (show u≤m by omega),run_sliceBound (show m≤c by omega)]
       obtain⟨m',hum,hmc,hb⟩:=hb;have hrun:(execOp a.eval oper).run P w= .ok (.value (.slice (if m'=l then A else A.map (·.add (l*sz))) (u-l) (m'-l))) w:=by
        simp[execOp,hop,hv,Instr.sliceAt,run_underlying (bU he),Instr.slice,hb,bu hsz]
       split at h
       ·cases h;exact aJ R hn.cU hrun (.undef _ (by intro b h;cases h))
       ·rename_i hmn;have hmx0:mx=none:=by simpa using hmn
        have hm':=hmc hmx0;subst hm';split at h<;>first|(cases h;done)|skip
        ·cases h;simp only[lenOf,af] at hlen;subst hlen;refine aJ R hn.cU hrun (.c _ _ ?_);generalize hq:Value.slice A 0 m'=q at hr;cases hr;cases hq;have:u=0:=by omega
         have:l=0:=by omega
         subst u l;exact .dm _
        ·rename_i own sz' rows;split at h
         ·rename_i hse;subst hse;cases h;simp only[lenOf,af] at hlen;subst hlen;refine aJ R hn.cU hrun (.c _ _ ?_);by_cases hlu:l=u
          ·subst hlu;simp only[Nat.sub_self,List.take_zero];exact .empty _ _ _ _
          ·rw[if_neg (by omega)];generalize hq:Value.slice A rows.length m'=q at hr;cases hr with
           |sl _ _ _ A' c' vs k1 k2 k3 k4 k5=>
            cases hq;have hL:((rows.drop l).take (u-l)).length=u-l:=by simp;omega
            have key:∀(i:Nat) (r:List T),((rows.drop l).take (u-l))[i]? =some r→rows[l+i]? =some r:=by
             intro i r hr;rw[aO] at hr;split at hr
             ·rw[bp] at hr;exact hr
             ·cases hr
            have:=bN.sl (X:=cx F Pr E o w) false sz' ((rows.drop l).take (u-l)) (A.map (·.add (l*sz'))) (m'-l) (fun i j=>vs (l+i) j) (by rw[hL];omega) (fun i r hr=>k2 _ r (key i r hr)) ?_ (fun i j r t hr ht=>k4 _ _ r t (key i r hr) ht) (fun i j r t hr ht=>k5 _ _ r t (key i r hr) ht)
            ·rw[hL] at this;exact this
            ·intro i j r t hr ht;obtain⟨ad,rfl,hu,hc⟩:=k3 _ _ r t (key i r hr) ht;refine⟨_,rfl,by rw[bZ];exact hu, ?_⟩;rw[add_add,←hc];congr 2;rw[Nat.add_mul];omega
         ·cases h
        ·rename_i id aw off len';split at h
         ·rename_i ob hg;split at h
          ·rename_i hcd;obtain⟨hver,hbx,hse⟩:=hcd;simp only[lenOf,af] at hlen;subst hlen;split at h
           ·rename_i hlu;cases h;refine aJ R hn.cU hrun (.c _ _ ?_);rw[←hlu.1,Nat.sub_self];exact .empty _ _ _ _
           ·rename_i hlu;cases h;refine aJ R hn.cU hrun (.c _ _ ?_);generalize hq:Value.slice A len' m'=q at hr;cases hr with
            |row _ _ _ _ cap sz2 b hE hfit ho=>
             cases hq;obtain⟨e1,_⟩:=cH R hg hver hE;have e2:sz2=sz:=by rw[e1,hse]
             subst e2;have r0:=bN.row (X:=cx F Pr E o w) id aw (off+l) (u-l) cap sz2 b hE (by omega) (by omega);rw[show cap-(off+l)=cap-off-l from by omega,Nat.add_mul,←add_add] at r0;by_cases hl0:cap-off=l
             ·rw[if_pos hl0];have q1:l=0:=by omega
              rw[q1,Nat.zero_mul,add_zero] at r0;rw[q1];exact r0
             ·rw[if_neg hl0];exact r0
            |dE _ _ hE=>
             cases hq;have:u=0:=by omega
             have:l=0:=by omega
             subst u l;exact .dE _ _ hE
          ·cases h
         ·cases h
      ·cases h
     ·cases h
    ·cases h
   ·cases h
  ·cases hok
 |_=>rw[hop] at hok;simp[bq] at hok
theorem oW(R:Rel F Pr w0 lb N E n t o a w){nn:Nat}{n':Nat→Prop}(hn:Fr n nn n'){cf:ay}{d sz:Nat}{x:O}{lo hi:Option O}{oper:Oper}(hok:bq P F (.kG sz x lo hi) oper.op=true){v:V}{bf:List (Nat×Ob)}
  (h:act cf nn d t o (.kG sz x lo hi)=some (v,bf)):eE P F Pr w0 lb N n' t o a w oper v bf:=by
 cases hop:oper.op with
 |slice ty y lo' hi' mx'=>
  rw[hop] at hok;cases mx' with
  |some _=>simp[bq] at hok
  |none=>
  simp only[bq] at hok;split at hok
  ·rename_i e he;simp only[ae,beq_iff_eq] at hok;obtain⟨⟨⟨hsz,hx⟩,hlo⟩,hhi⟩:=hok;simp only[act] at h;split at h
   ·rename_i id aw off len hz;split at h
    ·rename_i ob l u hg h1 h2;split at h
     ·rename_i hcd;obtain⟨hver,hbx,hse,hlu,hfit'⟩:=hcd;have hr:=aX R hx hz;generalize hv:a.eval y=val at hr;cases hr with
      |row _ _ _ _ cap sz2 b hE hfit ho=>
       obtain⟨e1,hob⟩:=cH R hg hver hE;have e2:sz2=sz:=by rw[e1,hse]
       subst e2;have hcap:=hob.len;have hb:(Instr.sliceBounds true len (cap-off) (lo'.map a.eval) (hi'.map a.eval) none).run P w= .ok (l,u,cap-off) w:=by
        rcases cN R hlo h1 with⟨rfl,rfl,_⟩|⟨y1,k1,rfl,e1,_⟩<;>rcases cN R hhi h2 with⟨rfl,rfl,_⟩|⟨y2,k2,rfl,e2,_⟩
        ·simp[Instr.sliceBounds]
        ·simp[Instr.sliceBounds,e2,run_sliceBound (show u≤cap-off by omega)]
        ·simp[Instr.sliceBounds,e1,run_sliceBound (show l≤u by omega)]
        ·simp[Instr.sliceBounds,e1,e2,run_sliceBound (show l≤u by omega),run_sliceBound (show u≤cap-off by omega)]
       have hrun:(execOp a.eval oper).run P w= .ok (.value (.slice (if cap-off=l then some ((bI b).add (off*sz2)) else(some ((bI b).add (off*sz2))).map (·.add (l*sz2))) (u-l) (cap-off-l))) w:=by
        simp[execOp,hop,hv,Instr.sliceAt,run_underlying (bU he),Instr.slice,hb,bu hsz]
       split at h
       ·rename_i hlu2;cases h;refine aJ R hn.cU hrun (.c _ _ ?_);rw[←hlu2.1,Nat.sub_self];exact .empty _ _ _ _
       ·rename_i hlu2;cases h;refine aJ R hn.cU hrun (.c _ _ ?_);have r0:=bN.row (X:=cx F Pr E o w) id aw (off+l) (u-l) cap sz2 b hE (by omega) (by omega);rw[show cap-(off+l)=cap-off-l from by omega,Nat.add_mul,←add_add] at r0;by_cases hl0:cap-off=l
        ·rw[if_pos hl0];have q1:l=0:=by omega
         rw[q1,Nat.zero_mul,add_zero] at r0;rw[q1];exact r0
        ·rw[if_neg hl0];exact r0
      |dE _ _ hE=>
       have hrows:ob.rows=[]:=by
        obtain⟨_,l,hl,hr⟩:=R.dO id ob hg;have hE':E aw=some .nil:=hE;rw[hver,hE'] at hl;cases hl;exact hr.1
       have hu:u=0:=by rw[hrows] at hfit';simpa using hfit'
       have hl:l=0:=by omega
       have hb:(Instr.sliceBounds true 0 0 (lo'.map a.eval) (hi'.map a.eval) none).run P w= .ok (l,u,0) w:=by
        rcases cN R hlo h1 with⟨rfl,q1,_⟩|⟨y1,k1,rfl,e1,_⟩<;>rcases cN R hhi h2 with⟨rfl,q2,_⟩|⟨y2,k2,rfl,e2,_⟩
        ·simp[Instr.sliceBounds,hu,hl]
        ·simp[Instr.sliceBounds,e2,run_sliceBound (show u≤0 by omega),hl]
        ·simp[Instr.sliceBounds,e1,run_sliceBound (show l≤0 by omega),hu]
        ·simp[Instr.sliceBounds,e1,e2,run_sliceBound (show l≤u by omega),run_sliceBound (show u≤0 by omega)]
       subst hu hl;have hrun:(execOp a.eval oper).run P w= .ok (.value (.slice none 0 0)) w:=by
        simp[execOp,hop,hv,Instr.sliceAt,run_underlying (bU he),Instr.slice,hb,bu hsz]
       simp at h;obtain⟨rfl,rfl⟩:=h;exact aJ R hn.cU hrun (.c _ _ (.dE _ _ hE))
     ·cases h
    ·cases h
   ·cases h
  ·cases hok
 |_=>rw[hop] at hok;simp[bq] at hok
theorem Rel.over(R:Rel F Pr w0 lb N E n t o a w){w':World}{E':Nat→Option Loc}{n':Nat→Prop}{id:Nat}{ob ob':Ob}{b cap p:Nat}{vs:List Value}(hg:get o id=some ob)(hwr:ob.w=true)
  (hE:E ob.aw=some (.cK b cap ob.sz)) (hsz:ob'.sz=ob.sz) (hlen:ob'.rows.length≤cap) (hwid:∀(i:Nat) (r:List T),ob'.rows[i]? =some r→r.length=ob.sz)
  (hcl:ob'.bx=false→∀(i j:Nat) (r:List T) (t:T),ob'.rows[i]? =some r→r[j]? =some t→a7 t)
  (hfit:p+vs.length≤cap*ob.sz) (h1:∀v∈vs,v.oneCell'=true)
  (hc:∀(i j:Nat) (r:List T) (t:T),ob'.rows[i]? =some r→r[j]? =some t→
   (p≤i*ob.sz+j∧i*ob.sz+j<p+vs.length∧∀v,vs[i*ob.sz+j-p]? =some v→bN (cx F Pr E o w) t v)∨
   ((i*ob.sz+j<p∨p+vs.length≤i*ob.sz+j)∧∃r0,ob.rows[i]? =some r0∧r0[j]? =some t))
  (hrun:(storeCells ((bI b).add p) vs).run P w= .ok () w')
  (hn:∀k,n k→n' k) (hEE:∀aw l,E aw=some l→E' aw=some l) (hfresh:∀aw l,E' aw=some l→n' aw) (hl:E' ob'.aw=some (.cK b cap ob.sz)):
  Rel F Pr w0 lb N E' n' t ((id,ob')::o) a w'∧cV (cx F Pr E o w) (cx F Pr E' ((id,ob')::o) w'):=by
 obtain⟨_,hl0,hwid0,_,cs,e,fr,m1,m2,m3,m4⟩:=cH R hg rfl hE;have m1':w.heap[b]? =some (.cells cs e fr):=m1;obtain⟨w2,cs',g1,g2,g3,g4,g5,g6,g7,g8,g9⟩:=bQ (P:=P) vs 0 p cs w m1' (by rw[m2];omega) m3 h1;rw[hrun] at g1;cases g1;simp only[Nat.add_zero] at g9;have hbl:b<w.heap.size:=(R.place id ob b cap ob.sz hg hE).1;refine R.rT g2 g3 g4 (by omega) hn hEE hfresh ?_ (l':= .cK b cap ob.sz) hl ?_ ?_
 ·intro k hk hno;by_cases e:k=b
  ·subst e;exact(hno ob cap ob.sz hg hwr hE).elim
  ·exact g6 k e
 ·intro b' cap' sz' hq;cases hq;exact⟨by rw[g5];exact hbl,.inr ⟨ob,cap,ob.sz,hg,hwr,hE⟩⟩
 ·intro K;refine⟨hsz.symm,hlen,by rw[hsz];exact hwid,hcl,cs',e,fr,g7,by rw[g8,hsz];exact m2,by rw[g8];exact m3, ?_⟩;intro i j r t hr ht;rw[hsz,g9];rcases hc i j r t hr ht with⟨q1,q2,q3⟩|⟨q1,r0,q2,q3⟩
  ·rw[if_pos ⟨q1,q2⟩];have hlt:i*ob.sz+j-p<vs.length:=by omega
   exact⟨vs[i*ob.sz+j-p],by simp[hlt],(q3 _ (by simp[hlt])).mono K⟩
  ·rw[if_neg (by omega)];obtain⟨v,hv,hrep⟩:=m4 i j r0 t q2 q3;exact⟨v,hv,hrep.mono K⟩
theorem nX(R:Rel F Pr w0 lb N E n t o a w){z:T}{val:Value}{rows:List (List T)}(hz:bN (cx F Pr E o w) z val)(hr:rowsOf o z=some rows):
  ∃A c,val= .slice A rows.length c∧rows.length≤c∧∀sz,(rows≠[]→fY o z=some sz)→(∀(i:Nat) (r:List T),rows[i]? =some r→r.length=sz)∧(∀(i j:Nat) (r:List T) (t:T),rows[i]? =some r→r[j]? =some t→a7 t)∧
   ∀(i j:Nat) (r:List T) (t:T),rows[i]? =some r→r[j]? =some t→∃ad v,A=some ad∧w.cell? (ad.add (i*sz+j))=some v∧bN (cx F Pr E o w) t v:=by
 cases z<;>simp only[rowsOf,reduceCtorEq,af] at hr
 ·subst hr;cases hz;exact⟨none,0,rfl,Nat.le_refl _,fun sz _=>⟨fun i r h=>by simp at h,fun i j r t h=>by simp at h,fun i j r t h=>by simp at h⟩⟩
 ·rename_i own s rows';subst hr;cases hz with
  |sl _ _ _ A c vs h1 h2 h3 h4 h5=>
   refine⟨A,c,rfl,h1,fun sz hs=> ?_⟩;have hse:∀(i:Nat) (r:List T),rows'[i]? =some r→s=sz:=by
    intro i r hir;have:=hs (by intro q;subst q;simp at hir);simpa [fY] using this
   refine⟨fun i r hir=>by rw[←hse i r hir];exact h2 i r hir,h5,fun i j r t hir hjt=> ?_⟩;obtain⟨ad,rfl,_,hcell⟩:=h3 i j r t hir hjt;exact⟨ad,vs i j,rfl,by rw[←hse i r hir];exact hcell,h4 i j r t hir hjt⟩
 ·rename_i id aw off len;split at hr
  ·rename_i ob hg;split at hr
   ·rename_i hcd;cases hr;obtain⟨hver,hbx,hfit⟩:=hcd;have hlen:((ob.rows.drop off).take len).length=len:=by simp;omega
    have key:∀(i:Nat) (r:List T),((ob.rows.drop off).take len)[i]? =some r→ob.rows[off+i]? =some r:=by
     intro i r hr;rw[aO] at hr;split at hr
     ·rw[bp] at hr;exact hr
     ·cases hr
    rw[hlen];cases hz with
    |row _ _ _ _ cap sz b hE hl ho=>
     obtain⟨e1,h1,h2,hcl,cs,e,fr,m1,m2,m3,m4⟩:=cH R hg hver hE;subst e1;have m1':w.heap[b]? =some (.cells cs e fr):=m1;refine⟨_,_,rfl,by omega,fun sz hs=> ?_⟩;have hse:∀(i:Nat) (r:List T),((ob.rows.drop off).take len)[i]? =some r→ob.sz=sz:=by
      intro i r hir;have:=hs (by intro q;rw[q] at hir;simp at hir);simpa [fY,hg] using this
     refine⟨fun i r hir=>by rw[←hse i r hir];exact h2 _ r (key i r hir),fun i j r t hir hjt=>hcl hbx _ j r t (key i r hir) hjt,fun i j r t hir hjt=> ?_⟩;obtain⟨v,hv,hrep⟩:=m4 _ j r t (key i r hir) hjt;refine⟨_,v,rfl, ?_,hrep⟩;rw[←hse i r hir,add_add,dr,show off*ob.sz+(i*ob.sz+j)=(off+i)*ob.sz+j from by rw[Nat.add_mul];omega];simp[World.cell?,m1',hv]
    |dE _ _ hE=>
     refine⟨none,0,rfl,Nat.le_refl _,fun sz _=>⟨fun i r h=>by simp at h,fun i j r t h=>by simp at h,fun i j r t h=>by simp at h⟩⟩
   ·cases hr
  ·cases hr
theorem fP{sz:Nat}{rows:List (List T)}(hw:∀(i:Nat) (r:List T),rows[i]? =some r→r.length=sz)(hp:0<sz){q:Nat}(hq:q<rows.length*sz):
  ∃i j r t,q=i*sz+j∧rows[i]? =some r∧r[j]? =some t∧rows.flatten[q]? =some t:=by
 have hi:q/sz<rows.length:=by rw[Nat.div_lt_iff_lt_mul hp];exact hq
 have hm:q%sz<sz:=Nat.mod_lt _ hp;have hl:=hw (q/sz) rows[q/sz] (by simp[hi]);have hj:q%sz<rows[q/sz].length:=by rw[hl];exact hm
 have hd:q=q/sz*sz+q%sz:=by rw[Nat.mul_comm];exact(Nat.div_add_mod q sz).symm
 have hfl:=dR hw (i:=q/sz) (j:=q%sz) (r:=rows[q/sz]) (t:=rows[q/sz][q%sz]) (by simp[hi]) (by simp[hj]);rw[←hd] at hfl;exact⟨q/sz,q%sz,rows[q/sz],rows[q/sz][q%sz],hd,by simp[hi],by simp[hj],hfl⟩
theorem eM(R:Rel F Pr w0 lb N E n t o a w){z:T}{val:Value}{rows:List (List T)}{sz:Nat}(hz:bN (cx F Pr E o w) z val)(hr:rowsOf o z=some rows)(hs:rows≠[]→fY o z=some sz)(hp:0<sz):
  ∃A c cs,val= .slice A rows.length c∧(∀(i:Nat) (r:List T),rows[i]? =some r→r.length=sz)∧(∀(i j:Nat) (r:List T) (t:T),rows[i]? =some r→r[j]? =some t→a7 t)∧bw (cx F Pr E o w) rows.flatten cs∧cs.length=rows.length*sz∧
   (∀k,(Builtin.firstCells sz rows.length val).run P {w with drawn:=k}= .ok cs.toArray {w with drawn:=k}):=by
 obtain⟨A,c,rfl,hlc,hm⟩:=nX R hz hr;obtain⟨hw,hcl,hm⟩:=hm sz hs;have hfl:=cQ hw;refine⟨A,c,(List.range (rows.length*sz)).map (fun q=>(A.bind fun ad=>w.cell? (ad.add q)).getD undef),rfl,hw,hcl, ?_,by simp, ?_⟩
 ·refine⟨by simp[hfl],fun q t v ht hv=> ?_⟩;have hq:q<rows.length*sz:=by rw[←hfl];exact(List.getElem?_eq_some_iff.1 ht).1
  obtain⟨i,j,r,t',rfl,h1,h2,h3⟩:=fP hw hp hq;rw[ht] at h3;cases h3;obtain⟨ad,v',rfl,hc,hrep⟩:=hm i j r _ h1 h2;simp only[bJ,List.getElem?_range hq,cp,Option.bind_some,hc,cw,af] at hv;subst hv;exact hrep
 ·intro k;cases rows with
  |nil=>
   cases A with
   |none=>simp[Builtin.firstCells]
   |some ad=>
    rw[run_firstCells_some (P:=P) {w with drawn:=k} sz _ ad _ c [] (by simp) (by simp)]
    simp
  |cons r0 rs=>
   have h0:=hw 0 r0 (by simp);obtain⟨ad,v,rfl,_,_⟩:=hm 0 0 r0 r0[0] (by simp) (by simp[h0,hp]);refine run_firstCells_some (P:=P) {w with drawn:=k} sz _ ad _ c _ (by simp) ?_
   intro q v hv;have hq:q<(r0::rs).length*sz:=by have:=(List.getElem?_eq_some_iff.1 hv).1;simpa using this
   obtain⟨i,j,r,t',rfl,h1,h2,h3⟩:=fP hw hp hq;obtain⟨ad',v',had,hc,hrep⟩:=hm i j r _ h1 h2;cases had;simp only[bJ,List.getElem?_range hq,cp,Option.bind_some,hc,cw,af] at hv;subst hv;exact hc
theorem qx(R:Rel F Pr w0 lb N E n t o a w){nn:Nat}{n':Nat→Prop}(hn:Fr n nn n'){cf:ay}{d:Nat}{x y:O}{oper:Oper}{c:Call}(hop:oper.op= .call c)(hok:fF P F (.max x y) c=true){v:V}{bf:List (Nat×Ob)}
  (h:act cf nn d t o (.max x y)=some (v,bf)):eE P F Pr w0 lb N n' t o a w oper v bf:=by
 obtain⟨cal,as,ats⟩:=c;cases cal with
 |value=>simp[fF] at hok
 |invoke=>simp[fF] at hok
 |builtin b=>
  simp only[fF] at hok;obtain⟨x',y',rfl,h1,hx,hy⟩:=pN hok;have h1:=nz h1;subst h1;simp only[act] at h;split at h
  ·rename_i p q hp hq;simp only[ab,ah] at h;obtain⟨r,hr,rfl,rfl⟩:=h;have h2:=aX R hx hp;have h3:=aX R hy hq;unfold max2 at hr;split at hr
   ·split at hr
    ·rename_i hk;subst hk;cases hr;exact aJ R hn.cU (by simp[execOp,hop,resolve,invoke,builtin,Builtin.max_,h2.dF,h3.dF,Builtin.max2]) (.c _ _ (.int _ _))
    ·cases hr
   ·rename_i s s';cases hr;have hb:∀a b,dC a b=Op.bytesLess a b:=by
     intro a
     induction a with
     |nil=>intro b;cases b<;>rfl
     |cons c a ih=>intro b;cases b with|nil=>rfl|cons d b=>simp[dC,Op.bytesLess,ih]
    refine aJ R hn.cU (val:= .string (if dC s.toList s'.toList then s' else s)) ?_ (.c _ _ (.str _));have hm:(Builtin.max2 (.string s) (.string s')).run P w= .ok (.string (if dC s.toList s'.toList then s' else s)) w:=by
     rw[hb];cases hq2:Op.bytesLess s.toList s'.toList<;>simp[Builtin.max2,Op.stringOp,asBool,hq2]
    simp[execOp,hop,resolve,invoke,builtin,Builtin.max_,h2.eG,h3.eG,hm]
   ·cases hr
  ·cases h
theorem qw(R:Rel F Pr w0 lb N E n t o a w){nn:Nat}{n':Nat→Prop}(hn:Fr n nn n'){cf:ay}{d:Nat}{x y:O}{oper:Oper}{c:Call}(hop:oper.op= .call c)(hok:fF P F (.min x y) c=true){v:V}{bf:List (Nat×Ob)}
  (h:act cf nn d t o (.min x y)=some (v,bf)):eE P F Pr w0 lb N n' t o a w oper v bf:=by
 obtain⟨cal,as,ats⟩:=c;cases cal with
 |value=>simp[fF] at hok
 |invoke=>simp[fF] at hok
 |builtin b=>
  simp only[fF] at hok;obtain⟨x',y',rfl,h1,hx,hy⟩:=pM hok;have h1:=nz h1;subst h1;simp only[act] at h;split at h
  ·rename_i p q hp hq;simp only[ab,ah] at h;obtain⟨r,hr,rfl,rfl⟩:=h;have h2:=aX R hx hp;have h3:=aX R hy hq;unfold min2 at hr;split at hr
   ·split at hr
    ·rename_i hk;subst hk;cases hr;exact aJ R hn.cU (by simp[execOp,hop,resolve,invoke,builtin,Builtin.min_,h2.dF,h3.dF,Builtin.min2]) (.c _ _ (.int _ _))
    ·cases hr
   ·cases hr
  ·cases h
theorem cv{zero:List T}{v:Value}{X:Cx}(h:bw X zero v.cells.toList)(hp:0<zero.length)(k:Nat):
  (Builtin.zeroCells v.cells k).toList=(List.replicate k v.cells.toList).flatten:=by
 have hl:v.cells.size=zero.length:=by have:=h.1;simpa using this.symm
 have hpos:0<v.cells.size:=by omega
 apply List.ext_getElem?;intro q;by_cases hq:q<k*v.cells.size
 ·have hi:q/v.cells.size<k:=by rw[Nat.div_lt_iff_lt_mul hpos];exact hq
  have hm:q%v.cells.size<v.cells.size:=Nat.mod_lt _ hpos;have e:∀(k:Nat) (q:Nat),q<k*v.cells.size→(List.replicate k v.cells.toList).flatten[q]? =v.cells.toList[q%v.cells.size]? :=by
   intro k
   induction k with
   |zero=>intro q hq;omega
   |succ k ih=>
    intro q hq;rw[List.replicate_succ,List.flatten_cons];by_cases h1:q<v.cells.size
    ·rw[List.getElem?_append_left (by simpa using h1),Nat.mod_eq_of_lt h1]
    ·rw[List.getElem?_append_right (by simpa using h1),Nat.mod_eq_sub_mod (by omega)];simp only[Array.length_toList];exact ih _ (by rw[Nat.succ_mul] at hq;omega)
  rw[e k q hq];simp[Builtin.zeroCells,bJ,List.getElem?_range hq,hm]
 ·have l1:(Builtin.zeroCells v.cells k).toList.length=k*v.cells.size:=by simp[Builtin.zeroCells]
  have l2:(List.replicate k v.cells.toList).flatten.length=k*v.cells.size:=by simp[List.length_flatten,List.map_replicate,List.sum_replicate_nat]
  rw[cz (by omega),cz (by omega)]
theorem c_{zero:List T}{k:Nat}:∀(i:Nat) (r:List T),(List.replicate k zero)[i]? =some r→r.length=zero.length:=by
 intro i r h;rw[List.getElem?_replicate] at h;split at h
 ·cases h;rfl
 ·cases h
theorem dN{zero:List T}{k:Nat}(hz:∀(i:Nat) (t:T),zero[i]? =some t→a7 t):∀(i j:Nat) (r:List T) (t:T),(List.replicate k zero)[i]? =some r→r[j]? =some t→a7 t:=by
 intro i j r t h ht;rw[List.getElem?_replicate] at h;split at h
 ·cases h;exact hz j t ht
 ·cases h
theorem qD(R:Rel F Pr w0 lb N E n t o a w){nn:Nat}{n':Nat→Prop}(hn:Fr n nn n'){cf:ay}{d:Nat}{zero:List T}{x:O}{oper:Oper}{c:Call}(hop:oper.op= .call c)(hok:fF P F (.qU zero x) c=true){v:V}{bf:List (Nat×Ob)}
  (h:act cf nn d t o (.qU zero x)=some (v,bf)):eE P F Pr w0 lb N n' t o a w oper v bf:=by
 obtain⟨cal,as,ats⟩:=c;cases cal with
 |value=>simp[fF] at hok
 |invoke=>simp[fF] at hok
 |builtin b=>
  simp only[fF] at hok;obtain⟨y,ty,e,rfl,h1,h2,hx,he,hz,hpos⟩:=pP hok;have h1:=nA h1;have h2:=nA h2;subst h1 h2;have hnone:∀A c,(A=none∨True)→(Builtin.clear_ #[ty] oper.type #[.slice A 0 c]).run P w= .ok (.tuple #[]) w:=by
   intro A c _;cases A<;>simp[Builtin.clear_,run_underlying (bU he)]
  simp only[act] at h;split at h
  ·rename_i hl;cases h;have hr:=aX R hx hl;generalize hv:a.eval y=val at hr;cases hr;exact aJ R hn.cU (by simp[execOp,hop,hv,resolve,invoke,builtin,hnone];rfl) (.undef _ (by intro b h;cases h))
  ·rename_i hl;cases h;have hr:=aX R hx hl;generalize hv:a.eval y=val at hr;cases hr;exact aJ R hn.cU (by simp[execOp,hop,hv,resolve,invoke,builtin,hnone];rfl) (.undef _ (by intro b h;cases h))
  ·rename_i id aw off len hl;split at h
   ·rename_i ob hg;split at h
    ·rename_i h0;subst h0;cases h;have hr:=aX R hx hl;generalize hv:a.eval y=val at hr;cases hr with
     |row=>exact aJ R hn.cU (by simp[execOp,hop,hv,resolve,invoke,builtin,hnone];rfl) (.undef _ (by intro b h;cases h))
     |dE=>exact aJ R hn.cU (by simp[execOp,hop,hv,resolve,invoke,builtin,hnone];rfl) (.undef _ (by intro b h;cases h))
    ·rename_i h0;split at h
     ·rename_i hcd;cases h;obtain⟨hver,hw,hbx,hsz,hfit⟩:=hcd;have hr:=aX R hx hl;generalize hv:a.eval y=val at hr;cases hr with
      |row _ _ _ _ cap sz b hE hlc ho=>
       obtain⟨e1,_⟩:=cH R hg hver hE;subst e1;have hE2:E ob.aw=some (.cK b cap ob.sz):=by rw[hver];exact hE
       obtain⟨_,hl0,hwid,hclo,cs,e',fr,m1,m2,m3,m4⟩:=cH R hg rfl hE2;have m1':w.heap[b]? =some (.cells cs e' fr):=m1;obtain⟨zv,hzv,hzr,_,hzc⟩:=dM (P:=P) (X:=cx F Pr E o w) hz;have hzl:=cv hzr hpos len;have hzL:bw (cx F Pr E o w) (List.replicate len zero).flatten (Builtin.zeroCells zv.cells len).toList:=by rw[hzl];exact hzr.replicate len
       have hlenv:(Builtin.zeroCells zv.cells len).toList.length=len*ob.sz:=by
        rw[←hzL.1,cQ c_,hsz];simp
       have hfit2:off*ob.sz+(Builtin.zeroCells zv.cells len).toList.length≤cap*ob.sz:=by
        rw[hlenv,←Nat.add_mul];exact aU _ hlc
       obtain⟨w',cs',g1,_⟩:=bQ (P:=P) (Builtin.zeroCells zv.cells len).toList 0 (off*ob.sz) cs w m1' (by rw[m2];omega) m3 hzL.one;have H1:∀(i:Nat) (r:List T),(ob.rows.take off++List.replicate len zero++ob.rows.drop (off+len))[i]? =some r→r.length=ob.sz:=by
        intro i r hr;rw[bh,aW] at hr;split at hr
        ·rw[aO] at hr;split at hr
         ·exact hwid i r hr
         ·cases hr
        ·rw[aW] at hr;split at hr
         ·rw[hsz];exact c_ _ r hr
         ·rw[bp] at hr;exact hwid _ r hr
       have H2:∀(i j:Nat) (r:List T) (t:T),(ob.rows.take off++List.replicate len zero++ob.rows.drop (off+len))[i]? =some r→r[j]? =some t→
         (off*ob.sz≤i*ob.sz+j∧i*ob.sz+j<off*ob.sz+(Builtin.zeroCells zv.cells len).toList.length∧∀v,(Builtin.zeroCells zv.cells len).toList[i*ob.sz+j-off*ob.sz]? =some v→bN (cx F Pr E o w) t v)∨
         ((i*ob.sz+j<off*ob.sz∨off*ob.sz+(Builtin.zeroCells zv.cells len).toList.length≤i*ob.sz+j)∧∃r0,ob.rows[i]? =some r0∧r0[j]? =some t):=by
        intro i j r t hr ht;have hto:(ob.rows.take off).length=off:=by simp;omega
        have hjs:∀r':List T,r'.length=ob.sz→r'[j]? =some t→j<ob.sz:=fun r' h1 h2=>by rw[←h1];exact(List.getElem?_eq_some_iff.1 h2).1
        rw[bh,aW,hto] at hr;split at hr
        ·rename_i hio;rw[aO,if_pos hio] at hr;have:=cA hio (hjs r (hwid i r hr) ht);exact .inr ⟨.inl this,r,hr,ht⟩
        ·rename_i hio;rw[aW] at hr;simp only[List.length_replicate] at hr;split at hr
         ·rename_i hil;refine .inl ⟨?_, ?_,fun v hvv=> ?_⟩
          ·have:=aU ob.sz (Nat.le_of_not_lt hio);omega
          ·rw[hlenv,←Nat.add_mul];exact cA (by omega) (hjs r (by rw[c_ _ r hr,hsz]) ht)
          ·have hf:=dR (c_ (zero:=zero) (k:=len)) hr ht;refine hzL.2 _ t v hf ?_;rw[←hvv,←hsz];congr 1;obtain⟨k,rfl⟩:∃k,i=off+k:=⟨i-off,by omega⟩
           rw[Nat.add_mul];simp;omega
         ·rename_i hil;rw[bp,show off+len+(i-off-len)=i from by omega] at hr;refine .inr ⟨.inr ?_,r,hr,ht⟩;rw[hlenv,←Nat.add_mul];have:=aU ob.sz (show off+len≤i by omega);omega
       have H3:ob.bx=false→∀(i j:Nat) (r:List T) (t:T),(ob.rows.take off++List.replicate len zero++ob.rows.drop (off+len))[i]? =some r→r[j]? =some t→a7 t:=by
        intro hb i j r t hr ht;rw[bh,aW] at hr;split at hr
        ·rw[aO] at hr;split at hr
         ·exact hclo hb i j r t hr ht
         ·cases hr
        ·rw[aW] at hr;split at hr
         ·exact dN hzc _ j r t hr ht
         ·rw[bp] at hr;exact hclo hb _ j r t hr ht
       obtain⟨R2,K⟩:=R.over (n':=n) (ob':={ob with rows:=ob.rows.take off++List.replicate len zero++ob.rows.drop (off+len)}) hg hw hE2 rfl (by simp;omega) H1 H3 hfit2 hzL.one H2 g1 (fun _ h=>h) (fun _ _ h=>h) R.fresh hE2
       ·refine⟨.tuple #[],w',E,.inl ?_,R2.same rfl rfl rfl rfl hn.cU,.undef _ (by intro b h;cases h)⟩;have:(Builtin.clear_ #[ty] oper.type #[.slice (some ((bI b).add (off*ob.sz))) len (cap-off)]).run P w= .ok (.tuple #[]) w':=by
         cases len with
         |zero=>exact(h0 rfl).elim
         |succ len=>simp[Builtin.clear_,run_underlying (bU he),cL hzv,g1]
        simp[execOp,hop,hv,resolve,invoke,builtin,this]
      |dE=>exact(h0 rfl).elim
     ·cases h
   ·cases h
  ·cases h
theorem lX(s:ByteArray):(cG s).flatten=s.data.toList.map fun b=>T.int .u8 b.toNat:=by
 unfold cG
 induction s.data.toList with
 |nil=>rfl
 |cons b l ih=>simp only[aY,List.flatten_cons,ih];rfl
theorem kZ(s:ByteArray):s.extract 0 s.size=s:=by
 apply ByteArray.ext;simp
theorem mG(R:Rel F Pr w0 lb N E n t o a w){z:T}{val:Value}{ys:List (List T)}{sz:Nat}(hz:bN (cx F Pr E o w) z val)(hp:0<sz)
  (hys:gO o sz z=some ys):
  ∃cs,(∀(i:Nat) (r:List T),ys[i]? =some r→r.length=sz)∧(∀(i j:Nat) (r:List T) (t:T),ys[i]? =some r→r[j]? =some t→a7 t)∧bw (cx F Pr E o w) ys.flatten cs∧cs.length=ys.length*sz∧(Builtin.lenOf val).run P w= .ok ys.length w∧
   (∀k,(Builtin.firstCells sz ys.length val).run P {w with drawn:=k}= .ok cs.toArray {w with drawn:=k}):=by
 have gen:∀z:T,bN (cx F Pr E o w) z val→(match rowsOf o z with|some ys=>if ys.isEmpty=true∨fY o z=some sz then some ys else none|none=>none)=some ys→∃cs,(∀(i:Nat) (r:List T),ys[i]? =some r→r.length=sz)∧(∀(i j:Nat) (r:List T) (t:T),ys[i]? =some r→r[j]? =some t→a7 t)∧bw (cx F Pr E o w) ys.flatten cs∧cs.length=ys.length*sz∧(Builtin.lenOf val).run P w= .ok ys.length w∧
   (∀k,(Builtin.firstCells sz ys.length val).run P {w with drawn:=k}= .ok cs.toArray {w with drawn:=k}):=by
  intro z hz hys;have h2:rowsOf o z=some ys∧(ys≠[]→fY o z=some sz):=by
   split at hys
   ·rename_i ys' h;split at hys
    ·rename_i h3;cases hys;refine⟨h,fun hne=>h3.resolve_left (by simpa using hne)⟩
    ·cases hys
   ·cases hys
  obtain⟨A,c,cs,rfl,h3,hcl,h4,h5,h6⟩:=eM (P:=P) R hz h2.1 h2.2 hp;exact⟨cs,h3,hcl,h4,h5,by simp[Builtin.lenOf],h6⟩
 cases z with
 |str s=>
  cases hz;simp only[gO] at hys;split at hys
  ·rename_i h1;subst h1;cases hys;refine⟨s.data.toList.map fun b=> .int .u8 b.toNat, ?_, ?_, ?_,by simp[cG], ?_, ?_⟩
   ·intro i r hr;simp only[cG,bJ,ab] at hr;obtain⟨b,_,rfl⟩:=hr;rfl
   ·intro i j r t hr ht;simp only[cG,bJ,ab] at hr;obtain⟨b,_,rfl⟩:=hr;cases j with
    |zero=>simp at ht;subst ht;exact .int _ _
    |succ j=>simp at ht
   ·rw[lX];refine⟨by simp,fun i t v ht hv=> ?_⟩;simp only[bJ,ab] at ht hv;obtain⟨b,hb,rfl⟩:=ht;obtain⟨b',hb',rfl⟩:=hv;rw[hb] at hb';cases hb';exact .int _ _
   ·have:(cG s).length=s.size:=by simp[cG]
    simp[Builtin.lenOf,this]
   ·intro k;have:(cG s).length=s.size:=by simp[cG]
    rw[this];simp only[Builtin.firstCells,kZ];simp only[Sem.run_pure];congr 1;apply Array.ext';simp
  ·cases hys
 |_=>exact gen _ hz hys
theorem kr{ty u e:TypeId}{d:TypeDesc}{sz bytes sLen sCap k:Nat}{base:Option Addr}{x zv:Value}{tyr:TypeId}(he:bF P ty=some e)(hsz:cj P e=some sz)(hu:P.underlying u=some d)(hd:∀k,d≠.int k)
  (hb:eF P e=some bytes) (hzv:fb P e=some zv) (hzs:zv.cells.size=sz) (hbytes:bytes≤4096) (hneed:sLen+k≤4294967296) {cU new:Array Value} (hl:(Builtin.lenOf x).run P w= .ok k w)
  (hnew:∀q,(Builtin.firstCells sz k x).run P {w with drawn:=q}= .ok new {w with drawn:=q}) (hold:∀q,(Builtin.firstCells sz sLen (.slice base sLen sCap)).run P {w with drawn:=q}= .ok cU {w with drawn:=q}) (_hos:cU.size=sLen*sz) (_hns:new.size=k*sz):
  (sLen+k≤sCap→∀w',(match base with|some a=>(storeCells (a.add (sLen*sz)) new.toList).run P w= .ok () w'|none=>w'=w)→
   (Builtin.append_ #[ty,u] tyr #[.slice base sLen sCap,x]).run P w= .ok (.slice base (sLen+k) sCap) w')∧
  (sCap<sLen+k→∃cap rest w',sLen+k≤cap∧rest.size=(cap-(sLen+k))*sz∧w'.os=w.os∧w'.tape=w.tape∧w'.output=w.output∧w'.heap=w.heap.push (.cells (cU++new++rest) e)∧
   (Builtin.append_ #[ty,u] tyr #[.slice base sLen sCap,x]).run P w= .ok (.slice (some (bI w.heap.size)) (sLen+k) cap) w'):=by
 obtain⟨i,hi,hib⟩:∃i,P.info? e=some i∧i.bytes=bytes:=by
  unfold eF at hb;cases hi:P.info? e with
  |none=>simp[hi] at hb
  |some i=>exact⟨i,rfl,by simpa [hi] using hb⟩
 have hni:(match d with| .int _=>true|_=>false)=false:=by
  cases d<;>first|rfl|exact absurd rfl (hd _)
 constructor
 ·intro hle w' hst;have hnew0:(Builtin.firstCells sz k x).run P w= .ok new w:=hnew w.drawn;cases base with
  |none=>
   simp only at hst;subst hst;simp[Builtin.append_,run_underlying (bU he),bu hsz,run_underlying hu,hl,hle,hnew0]
  |some ad=>
   simp only at hst;simp[Builtin.append_,run_underlying (bU he),bu hsz,run_underlying hu,hl,hle,hnew0,hst]
 ·intro hlt;have hnle:¬(sLen+k≤sCap):=by omega
  have hfits:Builtin.nextslicecap (sLen+k) sCap*i.bytes≤281474976710656:=by
   refine growslice_fits hlt ?_;rw[hib]
   calc (sLen+k)*bytes≤4294967296*4096:=Nat.mul_le_mul hneed hbytes
    _≤140737488355328:=by decide
  have hfits2:¬(Builtin.nextslicecap (sLen+k) sCap*i.bytes>2^48):=by omega
  have hmax:¬((sLen:Int)+k>IntKind.i64.max):=by
   have:IntKind.i64.max=9223372036854775807:=by decide
   rw[this];omega
  refine⟨sLen+k+w.tape w.drawn (.appendCap (sLen+k) sCap e)%(9223372036854775808-(sLen+k)),Builtin.zeroCells zv.cells (w.tape w.drawn (.appendCap (sLen+k) sCap e)%(9223372036854775808-(sLen+k))),
   w.drew.alloc (.cells (cU++new++Builtin.zeroCells zv.cells (w.tape w.drawn (.appendCap (sLen+k) sCap e)%(9223372036854775808-(sLen+k)))) e),Nat.le_add_right _ _,by simp[Builtin.zeroCells,hzs],rfl,rfl,rfl,rfl, ?_⟩
  have hforced:(Question.appendCap (sLen+k) sCap e).forced=false:=rfl;have hn1:(Builtin.firstCells sz k x).run P w.drew= .ok new w.drew:=hnew (w.drawn+1);have ho1:(Builtin.firstCells sz sLen (.slice base sLen sCap)).run P w.drew= .ok cU w.drew:=hold (w.drawn+1);simp[Builtin.append_,run_underlying (bU he),bu hsz,run_underlying hu,hl,hnle,dY hi,hforced,Question.cut];rw[if_neg (by omega),if_neg (by omega)];simp[ho1,hn1,cL hzv,newRow,bI]
theorem dc{X:Cx}{id aw len cap sz b:Nat}(hE:X.E aw=some (.cK b cap sz))(hl:len≤cap):bN X (.row id aw 0 len) (.slice (some (bI b)) len cap):=by
 have:=bN.row (X:=X) id aw 0 len cap sz b hE (by omega) (.inr rfl);rw[Nat.zero_mul,add_zero,Nat.sub_zero] at this;exact this
theorem mN{xs ys:List (List T)}{sz:Nat}(hx:∀(i:Nat) (r:List T),xs[i]? =some r→r.length=sz)(hy:∀(i:Nat) (r:List T),ys[i]? =some r→r.length=sz):
  ∀(i:Nat) (r:List T),(xs++ys)[i]? =some r→r.length=sz:=by
 intro i r h;rw[aW] at h;split at h
 ·exact hx i r h
 ·exact hy _ r h
theorem iB{xs:List (List T)}{sz k:Nat}(hx:∀(i:Nat) (r:List T),xs[i]? =some r→r.length=sz):∀(i:Nat) (r:List T),(xs.take k)[i]? =some r→r.length=sz:=by
 intro i r h;rw[aO] at h;split at h
 ·exact hx i r h
 ·cases h
theorem qI(R:Rel F Pr w0 lb N E n t o a w){nn:Nat}{n':Nat→Prop}(hn:Fr n nn n'){cf:ay}{d sz bytes:Nat}{x y:O}{oper:Oper}{c:Call}(hop:oper.op= .call c)(hok:fF P F (.app sz bytes x y) c=true){v:V}{bf:List (Nat×Ob)}
  (h:act cf nn d t o (.app sz bytes x y)=some (v,bf)):eE P F Pr w0 lb N n' t o a w oper v bf:=by
 obtain⟨cal,as,ats⟩:=c;cases cal with
 |value=>simp[fF] at hok
 |invoke=>simp[fF] at hok
 |builtin b=>
  simp only[fF] at hok;obtain⟨x',y',ty,u,e,dd,rfl,h1,h2,hx,hy,he,hsz,hpos,hb,hu,hd,zv,hzv,hzs⟩:=mm hok;have h1:=nz h1;have h2:=nz h2;subst h1 h2;simp only[act] at h;split at h
  ·rename_i p q hp hq;split at h
   ·cases h
   ·rename_i ys hys;split at h
    ·rename_i hbytes;have hrx:=aX R hx hp;have hry:=aX R hy hq;obtain⟨cs,hyw,hyc,hyL,hcl,hlen,hnew⟩:=mG (P:=P) R hry hpos hys;have hexec:∀val w',(Builtin.append_ #[ty,u] oper.type #[a.eval x',a.eval y']).run P w= .ok val w'→(execOp a.eval oper).run P w= .ok (.value val) w':=by
      intro val w' hr;simp[execOp,hop,resolve,invoke,builtin,hr]
     have nilcase:∀id,a.eval x'= .slice none 0 0→ys.length≤4294967296→v= .c (.row id nn 0 ys.length)→∀ob:Ob,ob.aw=nn→ob.sz=sz→ob.bx=false→ob.rows=ys→bf=[(id,ob)]→eE P F Pr w0 lb N n' t o a w oper v bf:=by
      intro id hv hk hvv ob ho1 ho2 ho3 ho4 hup;subst hvv hup;have hgo:=kr (P:=P) (w:=w) (tyr:=oper.type) (base:=none) (sLen:=0) (sCap:=0) he hsz hu hd hb hzv hzs hbytes (by omega) hlen hnew (cU:= #[]) (by intro q;simp[Builtin.firstCells]) (by simp) (by simp[hcl]);rw[←hv] at hgo;by_cases hz:ys.length=0
      ·have hr:=hgo.1 (by omega) w rfl;have hy0:ys=[]:=List.eq_nil_of_length_eq_zero hz;obtain⟨R2,K⟩:=R.oc id nn n' ob ho1 hn (by rw[ho4,hy0]) ho3;refine⟨.slice none 0 0,w,_,.inl (hexec _ _ (by rw[hr];simp[hz])),R2,.c _ _ ?_⟩;rw[hz];exact .dE id nn (by simp[cx,E1])
      ·obtain⟨cap,rest,w',hcap,hrest,f1,f2,f3,f4,hr⟩:=hgo.2 (by omega);have hcss:(#[]++cs.toArray++rest).size=cap*ob.sz:=by
        simp only[Nat.zero_add] at hcap hrest;simp only[Array.empty_append,Array.size_append,List.size_toArray,hcl,hrest,ho2];rw[←Nat.add_mul];congr 1;omega
       obtain⟨R2,K⟩:=R.iT id nn n' ob ho1 hn cs (#[]++cs.toArray++rest) e (0,0) cap f1 f2 f3 f4 (by rw[ho4];omega) (by rw[ho4,ho2];exact hyw) (by rw[ho4];exact hyL) hcss (by simp)
        (by intro q v hq;simp only[Array.empty_append];rw[Array.getElem?_append_left (by simpa using(List.getElem?_eq_some_iff.1 hq).1)];simpa using hq) (by rw[ho4];exact fun _=>hyc)
       refine⟨.slice (some (bI w.heap.size)) (0+ys.length) cap,w',_,.inl (hexec _ _ hr),R2,.c _ _ ?_⟩;rw[Nat.zero_add];exact dc (sz:=ob.sz) (b:=w.heap.size) (by simp[cx,E1]) (by omega)
     split at h
     ·
      split at h
      ·rename_i hk;cases h;exact nilcase d (by generalize hv:a.eval x'=val at hrx ⊢;cases hrx;rfl) hk rfl _ rfl rfl rfl rfl rfl
      ·cases h
     ·rename_i id aw len;split at h
      ·rename_i ob hg;split at h
       ·rename_i hcd;obtain⟨hver,hw,hbx,hobs,hlr,hneed⟩:=hcd;cases h;generalize hv:a.eval x'=val at hrx;cases hrx with
        |dE _ _ hE=>
         have hrows:ob.rows=[]:=by
          obtain⟨_,l,hl,hr⟩:=R.dO id ob hg;have hE':E aw=some .nil:=hE;rw[hver,hE'] at hl;cases hl;exact hr.1
         exact nilcase id hv (by omega) (by simp) {ob with aw:=nn,rows:=ob.rows.take 0++ys} rfl hobs hbx (by simp) rfl
        |row _ _ _ _ cap sz' b hE hfit ho=>
         obtain⟨e1,_⟩:=cH R hg hver hE;subst e1;have hE2:E ob.aw=some (.cK b cap ob.sz):=by rw[hver];exact hE
         obtain⟨_,hl0,hwid,hclo,cells,e',fr,m1,m2,m3,m4⟩:=cH R hg rfl hE2;have m1':w.heap[b]? =some (.cells cells e' fr):=m1;have hrT:bN (cx F Pr E o w) (.row id aw 0 len) (.slice (some ((bI b).add (0*ob.sz))) len (cap-0)):= .row id aw 0 len cap ob.sz b hE hfit ho;have hro:rowsOf o (.row id aw 0 len)=some (ob.rows.take len):=by simp[rowsOf,hg,hver,hbx,hlr]
         obtain⟨A,cc,olds,hAeq,how,hoc,hoL,hol,hold⟩:=eM (P:=P) R hrT hro (sz:=sz) (fun _=>by simp[fY,hg,hobs]) hpos;have htl:(ob.rows.take len).length=len:=by simp;omega
         rw[htl] at hol hold;have hgo:=kr (P:=P) (w:=w) (tyr:=oper.type) (base:=some ((bI b).add (0*ob.sz))) (sLen:=len) (sCap:=cap-0) he hsz hu hd hb hzv hzs hbytes hneed hlen hnew (cU:=olds.toArray) hold (by simp[hol]) (by simp[hcl]);rw[←hv] at hgo;have hwid2:∀(i:Nat) (r:List T),(ob.rows.take len++ys)[i]? =some r→r.length=ob.sz:=mN (iB hwid) (by rw[hobs];exact hyw);have hcl3:∀(i j:Nat) (r:List T) (t:T),(ob.rows.take len++ys)[i]? =some r→r[j]? =some t→a7 t:=by
          intro i j r t hr ht;rw[aW] at hr;split at hr
          ·exact hoc i j r t hr ht
          ·exact hyc _ j r t hr ht
         by_cases hroom:len+ys.length≤cap-0
         ·have hfit2:len*ob.sz+cs.length≤cap*ob.sz:=by
           rw[hcl,←hobs,←Nat.add_mul];exact aU _ (by omega)
          obtain⟨w',cs',g1,_⟩:=bQ (P:=P) cs 0 (len*ob.sz) cells w m1' (by rw[m2];omega) m3 hyL.one;have hst:(storeCells (((bI b).add (0*ob.sz)).add (len*sz)) cs.toArray.toList).run P w= .ok () w':=by
           rw[add_add,Nat.zero_mul,Nat.zero_add,←hobs];exact g1
          have hr:=hgo.1 hroom w' hst;have H2:∀(i j:Nat) (r:List T) (t:T),(ob.rows.take len++ys)[i]? =some r→r[j]? =some t→
            (len*ob.sz≤i*ob.sz+j∧i*ob.sz+j<len*ob.sz+cs.length∧∀v,cs[i*ob.sz+j-len*ob.sz]? =some v→bN (cx F Pr E o w) t v)∨
            ((i*ob.sz+j<len*ob.sz∨len*ob.sz+cs.length≤i*ob.sz+j)∧∃r0,ob.rows[i]? =some r0∧r0[j]? =some t):=by
           intro i j r t hr ht;have hj:j<ob.sz:=by rw[←hwid2 i r hr];exact(List.getElem?_eq_some_iff.1 ht).1
           rw[aW,htl] at hr;split at hr
           ·rename_i hil;rw[aO,if_pos hil] at hr;exact .inr ⟨.inl (cA hil hj),r,hr,ht⟩
           ·rename_i hil;have hik:i-len<ys.length:=(List.getElem?_eq_some_iff.1 hr).1;refine .inl ⟨?_, ?_,fun v hvv=> ?_⟩
            ·have:=aU ob.sz (Nat.le_of_not_lt hil);omega
            ·rw[hcl,←hobs,←Nat.add_mul];exact cA (by omega) hj
            ·have hf:=dR hyw hr ht;refine hyL.2 _ t v hf ?_;rw[←hvv,←hobs];congr 1;obtain⟨k,rfl⟩:∃k,i=len+k:=⟨i-len,by omega⟩
             rw[Nat.add_mul];simp;omega
          obtain⟨R2,K⟩:=R.over (n':=n') (E':=E1 E nn (.cK b cap ob.sz)) (ob':={ob with aw:=nn,rows:=ob.rows.take len++ys}) hg hw hE2 rfl (by simp;omega) hwid2 (fun _=>hcl3) hfit2 hyL.one H2 g1 hn.cU (kv R.fresh (hn.new _ (Nat.le_refl _) (by omega))) (jo R.fresh hn.cU (hn.add _ (Nat.le_refl _) (by omega))) (by simp[E1]);refine⟨.slice (some ((bI b).add (0*ob.sz))) (len+ys.length) (cap-0),w',_,.inl (hexec _ _ hr),R2,.c _ _ ?_⟩;rw[Nat.zero_mul,add_zero,Nat.sub_zero];exact dc (sz:=ob.sz) (b:=b) (by simp[cx,E1]) (by omega)
         ·obtain⟨ncap,rest,w',hcap,hrest,f1,f2,f3,f4,hr⟩:=hgo.2 (by omega);have hcss:(olds.toArray++cs.toArray++rest).size=ncap*ob.sz:=by
           simp only[Array.size_append,List.size_toArray,hol,hcl,hrest,hobs];rw[←Nat.add_mul,←Nat.add_mul];congr 1;omega
          obtain⟨R2,K⟩:=R.iT id nn n' {ob with aw:=nn,rows:=ob.rows.take len++ys} rfl hn (olds++cs) (olds.toArray++cs.toArray++rest) e (0,0) ncap f1 f2 f3 f4 (by simp;omega) hwid2
           (by simp only[List.flatten_append];exact hoL.append hyL) hcss (by simp)
           (by intro q v hq;rw[show olds.toArray++cs.toArray=(olds++cs).toArray from by simp,Array.getElem?_append_left (by simpa using(List.getElem?_eq_some_iff.1 hq).1)];simpa using hq) (fun _=>hcl3)
          refine⟨.slice (some (bI w.heap.size)) (len+ys.length) ncap,w',_,.inl (hexec _ _ hr),R2,.c _ _ ?_⟩;exact dc (sz:=ob.sz) (b:=w.heap.size) (by simp[cx,E1]) (by omega)
       ·cases h
      ·cases h
     ·cases h
    ·cases h
  ·cases h
theorem o7(R:Rel F Pr w0 lb N E n t o a w){nn:Nat}{n':Nat→Prop}(hn:Fr n nn n'){cf:ay}{d sz bytes:Nat}{x y:O}{oper:Oper}{c:Call}(hop:oper.op= .call c)(hok:fF P F (.lf sz bytes x y) c=true){v:V}{bf:List (Nat×Ob)}
  (h:act cf nn d t o (.lf sz bytes x y)=some (v,bf)):eE P F Pr w0 lb N n' t o a w oper v bf:=by
 obtain⟨cal,as,ats⟩:=c;cases cal with
 |value=>simp[fF] at hok
 |invoke=>simp[fF] at hok
 |builtin b=>
  simp only[fF] at hok;rw[n7] at hok;obtain⟨x',y',ty,u,e,dd,rfl,h1,h2,hx,hy,he,hsz,hpos,hb,hu,hd,zv,hzv,hzs⟩:=mm hok;have h1:=nz h1;have h2:=nz h2;subst h1 h2;simp only[act] at h;split at h
  ·rename_i id aw len q hp hq;split at h
   ·rename_i ys ob hys hg;split at h
    ·rename_i hcd;obtain⟨hbytes,hver,hw,hbx,hobs,hfits,hneed⟩:=hcd;cases h;have hrx:=aX R hx hp;have hry:=aX R hy hq;obtain⟨cs,hyw,hyc,hyL,hcl,hlen,hnew⟩:=mG (P:=P) R hry hpos hys;have hexec:∀val w',(Builtin.append_ #[ty,u] oper.type #[a.eval x',a.eval y']).run P w= .ok val w'→(execOp a.eval oper).run P w= .ok (.value val) w':=by
      intro val w' hr;simp[execOp,hop,resolve,invoke,builtin,hr]
     generalize hv:a.eval x'=val at hrx;cases hrx with
     |dE _ _ hE=>
      have hrows:ob.rows=[]:=by
       obtain⟨_,l,hl,hr⟩:=R.dO id ob hg;have hE':E aw=some .nil:=hE;rw[hver,hE'] at hl;cases hl;exact hr.1
      have hy0:ys=[]:=by rw[hrows] at hfits;simpa using hfits
      have hgo:=kr (P:=P) (w:=w) (tyr:=oper.type) (base:=none) (sLen:=0) (sCap:=0) he hsz hu hd hb hzv hzs hbytes (by omega) hlen hnew (cU:= #[]) (by intro q;simp[Builtin.firstCells]) (by simp) (by simp[hcl]);rw[←hv] at hgo;have hr:=hgo.1 (by simp[hy0]) w rfl;have hE3:E ob.aw=some .nil:=by rw[hver];exact hE
      obtain⟨R2,K⟩:=R.rT (n':=n') (id:=id) (ob':={ob with rows:=ob.rows.take 0++ys++ob.rows.drop (0+ys.length)}) rfl rfl rfl (Nat.le_refl _) hn.cU (fun _ _ h=>h) (fun v l h=>hn.cU _ (R.fresh v l h)) (fun b hb _=>rfl) (l':= .nil) hE3 (fun b cap sz h=>by cases h) (fun K=>⟨by simp[hrows,hy0],hbx⟩);refine⟨.slice none 0 0,w,_,.inl (hexec _ _ (by rw[hr];simp[hy0])),R2,.c _ _ ?_⟩;simp only[hy0,bd,Nat.add_zero];exact .dE id aw hE
     |row _ _ _ _ cap sz' b hE hfit ho=>
      obtain⟨e1,_⟩:=cH R hg hver hE;subst e1;have hE2:E ob.aw=some (.cK b cap ob.sz):=by rw[hver];exact hE
      obtain⟨_,hl0,hwid,hclo,cells,e',fr,m1,m2,m3,m4⟩:=cH R hg rfl hE2;have m1':w.heap[b]? =some (.cells cells e' fr):=m1;have hlr:len≤ob.rows.length:=by omega
      have hrT:bN (cx F Pr E o w) (.row id aw 0 len) (.slice (some ((bI b).add (0*ob.sz))) len (cap-0)):= .row id aw 0 len cap ob.sz b hE hfit ho;have hro:rowsOf o (.row id aw 0 len)=some (ob.rows.take len):=by simp[rowsOf,hg,hver,hbx,hlr]
      obtain⟨A,cc,olds,hAeq,how,hoc,hoL,hol,hold⟩:=eM (P:=P) R hrT hro (sz:=sz) (fun _=>by simp[fY,hg,hobs]) hpos;have htl:(ob.rows.take len).length=len:=by simp;omega
      rw[htl] at hol hold;have hgo:=kr (P:=P) (w:=w) (tyr:=oper.type) (base:=some ((bI b).add (0*ob.sz))) (sLen:=len) (sCap:=cap-0) he hsz hu hd hb hzv hzs hbytes hneed hlen hnew (cU:=olds.toArray) hold (by simp[hol]) (by simp[hcl]);rw[←hv] at hgo;have hal:(ob.rows.take len++ys).length=len+ys.length:=by simp;omega
      have at3:∀(i:Nat) (r:List T),(ob.rows.take len++ys++ob.rows.drop (len+ys.length))[i]? =some r→(i<len∧ob.rows[i]? =some r)∨(len≤i∧i<len+ys.length∧ys[i-len]? =some r)∨(len+ys.length≤i∧ob.rows[i]? =some r):=by
       intro i r hr;rw[aW,hal] at hr;split at hr
       ·rename_i hi;rw[aW,htl] at hr;split at hr
        ·rename_i hil;rw[aO,if_pos hil] at hr;exact .inl ⟨hil,hr⟩
        ·rename_i hil;exact .inr (.inl ⟨by omega,hi,hr⟩)
       ·rename_i hi;rw[bp,show len+ys.length+(i-(len+ys.length))=i by omega] at hr;exact .inr (.inr ⟨by omega,hr⟩)
      have hwid2:∀(i:Nat) (r:List T),(ob.rows.take len++ys++ob.rows.drop (len+ys.length))[i]? =some r→r.length=ob.sz:=by
       intro i r hr;rcases at3 i r hr with⟨_,q⟩|⟨_,_,q⟩|⟨_,q⟩
       ·exact hwid i r q
       ·rw[hobs];exact hyw _ r q
       ·exact hwid i r q
      have hcl3:∀(i j:Nat) (r:List T) (t:T),(ob.rows.take len++ys++ob.rows.drop (len+ys.length))[i]? =some r→r[j]? =some t→a7 t:=by
       intro i j r t hr ht;rcases at3 i r hr with⟨_,q⟩|⟨_,_,q⟩|⟨_,q⟩
       ·exact hclo hbx i j r t q ht
       ·exact hyc _ j r t q ht
       ·exact hclo hbx i j r t q ht
      have hroom:len+ys.length≤cap-0:=by omega
      have hfit2:len*ob.sz+cs.length≤cap*ob.sz:=by
       rw[hcl,←hobs,←Nat.add_mul];exact aU _ (by omega)
      obtain⟨w',cs',g1,_⟩:=bQ (P:=P) cs 0 (len*ob.sz) cells w m1' (by rw[m2];omega) m3 hyL.one;have hst:(storeCells (((bI b).add (0*ob.sz)).add (len*sz)) cs.toArray.toList).run P w= .ok () w':=by
       rw[add_add,Nat.zero_mul,Nat.zero_add,←hobs];exact g1
      have hr:=hgo.1 hroom w' hst;have H2:∀(i j:Nat) (r:List T) (t:T),(ob.rows.take len++ys++ob.rows.drop (len+ys.length))[i]? =some r→r[j]? =some t→
        (len*ob.sz≤i*ob.sz+j∧i*ob.sz+j<len*ob.sz+cs.length∧∀v,cs[i*ob.sz+j-len*ob.sz]? =some v→bN (cx F Pr E o w) t v)∨
        ((i*ob.sz+j<len*ob.sz∨len*ob.sz+cs.length≤i*ob.sz+j)∧∃r0,ob.rows[i]? =some r0∧r0[j]? =some t):=by
       intro i j r t hr ht;have hj:j<ob.sz:=by rw[←hwid2 i r hr];exact(List.getElem?_eq_some_iff.1 ht).1
       rcases at3 i r hr with⟨hil,q⟩|⟨hil,hik,q⟩|⟨hik,q⟩
       ·exact .inr ⟨.inl (cA hil hj),r,q,ht⟩
       ·refine .inl ⟨?_, ?_,fun v hvv=> ?_⟩
        ·have:=aU ob.sz hil;omega
        ·rw[hcl,←hobs,←Nat.add_mul];exact cA (by omega) hj
        ·have hf:=dR hyw q ht;refine hyL.2 _ t v hf ?_;rw[←hvv,←hobs];congr 1;obtain⟨k,rfl⟩:∃k,i=len+k:=⟨i-len,by omega⟩
         rw[Nat.add_mul];simp;omega
       ·refine .inr ⟨.inr ?_,r,q,ht⟩;rw[hcl,←hobs,←Nat.add_mul];have:=aU ob.sz hik;omega
      obtain⟨R2,K⟩:=R.over (n':=n') (E':=E) (ob':={ob with rows:=ob.rows.take len++ys++ob.rows.drop (len+ys.length)}) hg hw hE2 rfl (by simp;omega) hwid2 (fun _=>hcl3) hfit2 hyL.one H2 g1 hn.cU (fun _ _ h=>h) (fun v l h=>hn.cU _ (R.fresh v l h)) hE2;refine⟨.slice (some ((bI b).add (0*ob.sz))) (len+ys.length) (cap-0),w',_,.inl (hexec _ _ hr),R2,.c _ _ ?_⟩;rw[Nat.zero_mul,add_zero,Nat.sub_zero];exact dc (sz:=ob.sz) (b:=b) hE (by omega)
    ·cases h
   ·cases h
  ·cases h
theorem kX:∀(vs:List Value) (k off:Nat) (cells:Array Value),off+k+vs.length≤cells.size→
  ((vs.zipIdx k).foldl (fun (cs:Array Value) (p:Value×Nat)=>cs.setIfInBounds (off+p.2) p.1) cells).size=cells.size∧
  ∀q,((vs.zipIdx k).foldl (fun (cs:Array Value) (p:Value×Nat)=>cs.setIfInBounds (off+p.2) p.1) cells)[q]? =if off+k≤q∧q<off+k+vs.length then vs[q-(off+k)]? else cells[q]?
 |[],k,off,cells,h=>by
  refine⟨rfl,fun q=> ?_⟩;rw[if_neg (by simp)];rfl
 |v::vs,k,off,cells,h=>by
  simp only[ak] at h;obtain⟨h1,h2⟩:=kX vs (k+1) off (cells.setIfInBounds (off+k) v) (by simp;omega);simp only[List.zipIdx_cons,iA];refine⟨by rw[h1];simp,fun q=> ?_⟩;rw[h2 q,Array.getElem?_setIfInBounds];by_cases r:off+(k+1)≤q∧q<off+(k+1)+vs.length
  ·rw[if_pos r,if_pos ⟨by omega,by simp only[ak];omega⟩];obtain⟨p,rfl⟩:∃p,q=off+k+(p+1):=⟨q-(off+k)-1,by omega⟩
   rw[show off+k+(p+1)-(off+k)=p+1 from by omega,show off+k+(p+1)-(off+(k+1))=p from by omega];simp
  ·rw[if_neg r];by_cases e:off+k=q
   ·subst e;rw[if_pos rfl,if_pos (by omega),if_pos ⟨Nat.le_refl _,by simp⟩];simp
   ·rw[if_neg e,if_neg (by simp only[ak];omega)]
theorem jI(place:Nat→Option (Nat×Nat))(cells:Array Value)(i:Nat)(v:Value)(rest:List (Nat×Value)){off size:Nat}(hp:place i=some (off,size))(hs:v.cells.size=size)(hf:off+size≤cells.size):
  ∃cells':Array Value,Instr.fill place cells ((i,v)::rest)=Instr.fill place cells' rest∧cells'.size=cells.size∧∀q,cells'[q]? =if off≤q∧q<off+size then v.cells[q-off]? else cells[q]? :=by
 obtain⟨h1,h2⟩:=kX v.cells.toList 0 off cells (by simp[hs];omega);simp only[Nat.add_zero,Array.length_toList,hs] at h1 h2;refine⟨_, ?_,h1,fun q=>by rw[h2 q];simp⟩;simp only[Instr.fill,hp,hs];rw[if_neg (by simp;omega)];congr 1;rw[←Array.foldl_toList,Array.toList_zipIdx]
theorem n3{X:Cx}{r xs:List T}{off:Nat}{cells cells' vs:Array Value}(h:bw X r cells.toList)(hx:bw X xs vs.toList)(hf:off+xs.length≤r.length)(hs:cells'.size=cells.size)
  (hc:∀q,cells'[q]? =if off≤q∧q<off+xs.length then vs[q-off]? else cells[q]?):bw X (setAt r off xs) cells'.toList:=by
 refine⟨by rw[eL hf,h.1];simp[hs],fun q t v ht hv=> ?_⟩;rw[gA hf] at ht;simp only[Array.getElem?_toList] at hv;rw[hc] at hv;split at ht
 ·rename_i hq;rw[if_pos hq] at hv;exact hx.2 _ t v ht (by simpa using hv)
 ·rename_i hq;rw[if_neg hq] at hv;exact h.2 _ t v ht (by simpa using hv)
theorem jc(R:Rel F Pr w0 lb N E n t o a w){places:List (Nat×Nat)}:∀{parts:List (Nat×Nat×O)} {qs:List (Nat×Operand)} {ps:List (Nat×List T)} {zero:List T} {cells:Array Value},fw F places parts qs=true→
  (∀(p:Nat×List T),p∈ps→True)→
  bB (fun (p:Nat×Nat×O)=>match en t p.2.2 with|some cs=>if cs.length=p.2.1∧p.1+p.2.1≤zero.length then some (p.1,cs) else none|none=>none) parts=some ps→
  bw (cx F Pr E o w) zero cells.toList→∃cells',Instr.fill (places.toArray[·]?) cells (qs.map fun q=>(q.1,a.eval q.2))=some cells'∧bw (cx F Pr E o w) (jZ ps zero) cells'.toList
 |[],[],ps,zero,cells,_,_,h,hr=>by simp[bB] at h;subst h;exact⟨cells,rfl,hr⟩
 |(off,size,x)::parts,(i,y)::qs,ps,zero,cells,hok,_,h,hr=>by
  simp only[fw,ae,beq_iff_eq] at hok;obtain⟨⟨hpl,hx⟩,hrest⟩:=hok;simp only[bB] at h;split at h
  ·rename_i p ps' hp hps;cases h;split at hp
   ·rename_i cs hcs;split at hp
    ·rename_i hcd;cases hp;have hrep:=dJ R hx hcs;have hlen:=hrep.1;have hzl:zero.length=cells.size:=by have:=hr.1;simpa using this
     obtain⟨cells',g1,g2,g3⟩:=jI (places.toArray[·]?) cells i (a.eval y) (qs.map fun q=>(q.1,a.eval q.2)) (off:=off) (size:=size) (by simpa using hpl) (by simp at hlen;omega) (by omega);have hr2:bw (cx F Pr E o w) (setAt zero off cs) cells'.toList:=n3 hr hrep (by omega) g2 (by intro q;rw[g3 q,hcd.1]);have hl2:(setAt zero off cs).length=zero.length:=eL (by omega);obtain⟨c2,k1,k2⟩:=jc R (zero:=setAt zero off cs) hrest (fun _ _=>trivial) (by rw[hl2];exact hps) hr2;exact⟨c2,by simp only[aY];rw[g1];exact k1,k2⟩
    ·cases hp
   ·cases hp
  ·cases h
 |[],_::_,_,_,_,hok,_,_,_=>by simp[fw] at hok
 |_::_,[],_,_,_,hok,_,_,_=>by simp[fw] at hok
theorem nE(R:Rel F Pr w0 lb N E n t o a w){nn:Nat}{n':Nat→Prop}(hn:Fr n nn n'){cf:ay}{d:Nat}{zero:List T}{parts:List (Nat×Nat×O)}{oper:Oper}(hok:bq P F (.build zero parts) oper.op=true){v:V}{bf:List (Nat×Ob)}
  (h:act cf nn d t o (.build zero parts)=some (v,bf)):eE P F Pr w0 lb N n' t o a w oper v bf:=by
 cases hop:oper.op with
 |build ty qs=>
  rw[hop] at hok;simp only[bq] at hok;split at hok
  ·rename_i fs hfs;split at hok
   ·rename_i places hpl;simp only[ae] at hok;obtain⟨hz,hps⟩:=hok;obtain⟨zv,hzv,hzr,hsz,hzc⟩:=dM (P:=P) (X:=cx F Pr E o w) hz;simp only[act,ab,ah] at h;obtain⟨ps,hmp,rfl,rfl⟩:=h;obtain⟨cells',k1,k2⟩:=jc R hps (fun _ _=>trivial) hmp hzr;have hb:P.built ty (qs.map fun q=>(q.1,a.eval q.2)).toList=some cells':=by
     unfold Program.built;obtain⟨it,hit,hitz⟩:∃it,P.info? ty=some it∧it.zero=some zv:=by
      unfold fb at hzv;cases hi:P.info? ty with
      |none=>simp[hi] at hzv
      |some i=>exact⟨i,rfl,by simpa [hi] using hzv⟩
     have hpl':fs.toList.mapM (fun f=>(P.info? f.type).map fun i=>(f.offset,i.size))=some places:=hpl;simp only[hit,eb hfs,hitz,hpl'];simpa using k1
    have hrun:=run_build (P:=P) w ty (qs.map fun q=>(q.1,a.eval q.2)) cells' hb;refine aJ R hn.cU (val:= .agg cells') ?_ ?_
    ·simp only[execOp,hop,Sem.run_bind,hrun];rfl
    ·have:=bW.rH k2;simpa using this
   ·cases hok
  ·cases hok
 |_=>rw[hop] at hok;simp[bq] at hok
theorem qu(R:Rel F Pr w0 lb N E n t o a w){nn:Nat}{n':Nat→Prop}(hn:Fr n nn n'){cf:ay}{d sz bytes:Nat}{zero:List T}{x:O}{oper:Oper}(hok:bq P F (.rI sz bytes zero x) oper.op=true){v:V}{bf:List (Nat×Ob)}
  (h:act cf nn d t o (.rI sz bytes zero x)=some (v,bf)):eE P F Pr w0 lb N n' t o a w oper v bf:=by
 cases hop:oper.op with
 |makeSlice ty l c=>
  rw[hop] at hok;simp only[bq] at hok;split at hok
  ·rename_i e he;simp only[ae,beq_iff_eq,decide_eq_true_eq] at hok;obtain⟨⟨⟨⟨⟨hsz,hpos⟩,hb⟩,hz⟩,hl⟩,hc⟩:=hok;obtain⟨zv,hzv,hzr,hzs,hzc⟩:=dM (P:=P) (X:=cx F Pr E o w) hz;simp only[act] at h;split at h
   ·rename_i m hm;split at h
    ·rename_i hcd;cases h;obtain⟨k1,hk1⟩:=da R hl hm;obtain⟨k2,hk2⟩:=da R hc hm;obtain⟨it,hit,hitz,hits,hitb⟩:∃it,P.info? e=some it∧it.zero=some zv∧it.size=sz∧it.bytes=bytes:=by
      unfold fb at hzv;unfold cj at hsz;unfold eF at hb;cases hi:P.info? e with
      |none=>simp[hi] at hzv
      |some i=>simp[hi] at hzv hsz hb;exact⟨i,rfl,hzv,hsz,hb⟩
     have hzl:zero.length=sz:=by rw[hsz] at hzs;exact(Option.some.inj hzs).symm
     have hcs:zv.cells.size=sz:=by have:=hzr.1;simp at this;omega
     have hrun:=run_make (P:=P) w ty e it zv (bU he) hit hitz k1 k2 (m:Int) (m:Int) (by omega) (Int.le_refl _) (by rw[hitb,←Int.natCast_mul];omega) (by omega);simp only[dT,hits] at hrun;have hfl:=cv hzr (by omega) m;have hL:bw (cx F Pr E o w) (List.replicate m zero).flatten (Builtin.zeroCells zv.cells m).toList:=by rw[hfl];exact hzr.replicate m
     obtain⟨R2,K⟩:=R.iT d nn n' {aw:=nn,sz:=sz,w:=true,bx:=false,rows:=List.replicate m zero} rfl hn (Builtin.zeroCells zv.cells m).toList (Builtin.zeroCells zv.cells m) e (0,0) m (w':=w.alloc (.cells (Builtin.zeroCells zv.cells m) e)) rfl rfl rfl rfl
      (by simp) (by intro i r hr;rw[c_ i r hr,hzl]) hL (by simp[Builtin.zeroCells,hcs]) (by simp) (by intro q v hq;simpa using hq) (fun _=>dN hzc)
     refine⟨.slice (some (bI w.heap.size)) m m,_,_,.inl ?_,R2,.c _ _ (dc (sz:=sz) (b:=w.heap.size) (by simp[cx,E1]) (Nat.le_refl _))⟩;have e2:madeCells zv.cells (m*sz)=Builtin.zeroCells zv.cells m:=by rw[←hcs];rfl
     rw[e2] at hrun;simp only[execOp,hop,hk1,hk2,Sem.run_bind,hrun];rfl
    ·cases h
   ·cases h
  ·cases hok
 |_=>rw[hop] at hok;simp[bq] at hok
theorem qv(R:Rel F Pr w0 lb N E n t o a w){nn:Nat}{n':Nat→Prop}(hn:Fr n nn n'){cf:ay}{d sz bytes:Nat}{zero:List T}{x y:O}{oper:Oper}(hok:bq P F (.rJ sz bytes zero x y) oper.op=true){v:V}{bf:List (Nat×Ob)}
  (h:act cf nn d t o (.rJ sz bytes zero x y)=some (v,bf)):eE P F Pr w0 lb N n' t o a w oper v bf:=by
 cases hop:oper.op with
 |makeSlice ty l c=>
  rw[hop] at hok;simp only[bq] at hok;split at hok
  ·rename_i e he;simp only[ae,beq_iff_eq,decide_eq_true_eq] at hok;obtain⟨⟨⟨⟨⟨hsz,hpos⟩,hb⟩,hz⟩,hl⟩,hc⟩:=hok;obtain⟨zv,hzv,hzr,hzs,hzc⟩:=dM (P:=P) (X:=cx F Pr E o w) hz;simp only[act] at h;split at h
   ·rename_i m c' hm hm';split at h
    ·rename_i hcd;cases h;obtain⟨k1,hk1⟩:=da R hl hm;obtain⟨k2,hk2⟩:=da R hc hm';obtain⟨it,hit,hitz,hits,hitb⟩:∃it,P.info? e=some it∧it.zero=some zv∧it.size=sz∧it.bytes=bytes:=by
      unfold fb at hzv;unfold cj at hsz;unfold eF at hb;cases hi:P.info? e with
      |none=>simp[hi] at hzv
      |some i=>simp[hi] at hzv hsz hb;exact⟨i,rfl,hzv,hsz,hb⟩
     have hzl:zero.length=sz:=by rw[hsz] at hzs;exact(Option.some.inj hzs).symm
     have hcs:zv.cells.size=sz:=by have:=hzr.1;simp at this;omega
     have hrun:=run_make (P:=P) w ty e it zv (bU he) hit hitz k1 k2 (m:Int) (c':Int) (by omega) (by omega) (by rw[hitb,←Int.natCast_mul];omega) (by omega);simp only[dT,hits] at hrun;have hfl:=cv hzr (by omega) m;have hL:bw (cx F Pr E o w) (List.replicate m zero).flatten (Builtin.zeroCells zv.cells m).toList:=by rw[hfl];exact hzr.replicate m
     have hpf:∀(q:Nat) (v:Value),(Builtin.zeroCells zv.cells m).toList[q]? =some v→(Builtin.zeroCells zv.cells c')[q]? =some v:=by
      intro q v hq;rw[hfl] at hq;have hfc:=cv hzr (by omega) c';have e3:List.replicate c' zv.cells.toList=List.replicate m zv.cells.toList++List.replicate (c'-m) zv.cells.toList:=by
       rw[List.replicate_append_replicate,show m+(c'-m)=c' from by omega]
      rw[←Array.getElem?_toList,hfc,e3,List.flatten_append];have hq':q<(List.replicate m zv.cells.toList).flatten.length:=by
       rcases Nat.lt_or_ge q (List.replicate m zv.cells.toList).flatten.length with z|z
       ·exact z
       ·rw[cz z] at hq;cases hq
      rw[List.getElem?_append_left hq'];exact hq
     obtain⟨R2,K⟩:=R.iT d nn n' {aw:=nn,sz:=sz,w:=true,bx:=false,rows:=List.replicate m zero} rfl hn (Builtin.zeroCells zv.cells m).toList (Builtin.zeroCells zv.cells c') e (0,0) c' (w':=w.alloc (.cells (Builtin.zeroCells zv.cells c') e)) rfl rfl rfl rfl
      (by simp;omega) (by intro i r hr;rw[c_ i r hr,hzl]) hL (by simp[Builtin.zeroCells,hcs]) (by simp) hpf (fun _=>dN hzc)
     refine⟨.slice (some (bI w.heap.size)) m c',_,_,.inl ?_,R2,.c _ _ (dc (sz:=sz) (b:=w.heap.size) (by simp[cx,E1]) hcd.1)⟩;have e2:madeCells zv.cells (c'*sz)=Builtin.zeroCells zv.cells c':=by rw[←hcs];rfl
     rw[e2] at hrun;simp only[execOp,hop,hk1,hk2,Sem.run_bind,hrun];rfl
    ·cases h
   ·cases h
  ·cases hok
 |_=>rw[hop] at hok;simp[bq] at hok
theorem n4{X:Cx}{rows:List (List T)}{sz i:Nat}{r:List T}{cells cells' vs:Array Value}(hw:∀(i:Nat) (r:List T),rows[i]? =some r→r.length=sz)(hp:0<sz)(h:bw X rows.flatten cells.toList)
  (hx:bw X r vs.toList) (hr:r.length=sz) (hi:i<rows.length) (hs:cells'.size=cells.size) (hc:∀q,cells'[q]? =if i*sz≤q∧q<i*sz+sz then vs[q-i*sz]? else cells[q]?):
  bw X (rows.set i r).flatten cells'.toList∧∀(k:Nat) (r':List T),(rows.set i r)[k]? =some r'→r'.length=sz:=by
 have hw2:∀(k:Nat) (r':List T),(rows.set i r)[k]? =some r'→r'.length=sz:=by
  intro k r' hk;rw[List.getElem?_set] at hk;split at hk
  ·cases hk;exact hr
  ·exact hw k r' hk
 refine⟨⟨?_,fun q t v ht hv=> ?_⟩,hw2⟩
 ·have h1:=cQ hw2;have h2:=h.1;rw[cQ hw] at h2;rw[h1];simp at h2 ⊢;omega
 ·have hq:q<(rows.set i r).length*sz:=by rw[←cQ hw2];exact(List.getElem?_eq_some_iff.1 ht).1
  obtain⟨k,j,r',t',rfl,h1,h2,h3⟩:=fP hw2 hp hq;rw[ht] at h3;cases h3;simp only[Array.getElem?_toList] at hv;rw[hc] at hv;have hj:j<sz:=by rw[←hw2 k r' h1];exact(List.getElem?_eq_some_iff.1 h2).1
  rw[List.getElem?_set] at h1;split at h1
  ·rename_i e;subst e;cases h1;rw[if_pos (by omega),show i*sz+j-i*sz=j from by omega] at hv;exact hx.2 j t v h2 (by simpa using hv)
  ·rename_i e;have:¬(i*sz≤k*sz+j∧k*sz+j<i*sz+sz):=by
    rcases Nat.lt_or_gt_of_ne e with q|q
    ·have:=aU sz (show i+1≤k from q);rw[Nat.add_mul,Nat.one_mul] at this;omega
    ·have:=cA q hj;omega
   rw[if_neg this] at hv;exact h.2 _ t v (dR hw h1 h2) (by simpa using hv)
theorem fQ(R:Rel F Pr w0 lb N E n t o a w){sz len:Nat}(hp:0<sz):∀{parts:List (Nat×O)} {qs:List (Nat×Operand)} {ps:List (Nat×List T)} {rows:List (List T)} {cells:Array Value},eP F parts qs=true→
  bB (fun (p:Nat×O)=>match en t p.2 with|some cs=>if cs.length=sz∧p.1<len then(bB (cl o) cs).map fun cs=>(p.1,cs) else none|none=>none) parts=some ps→
  rows.length=len→(∀(i:Nat) (r:List T),rows[i]? =some r→r.length=sz)→
  (∀(i j:Nat) (r:List T) (t:T),rows[i]? =some r→r[j]? =some t→a7 t)→
  bw (cx F Pr E o w) rows.flatten cells.toList→∃cells',Instr.fill (fun i=>some (i*sz,sz)) cells (qs.map fun q=>(q.1,a.eval q.2))=some cells'∧
   bw (cx F Pr E o w) (ps.foldl (fun rs p=>rs.set p.1 p.2) rows).flatten cells'.toList∧(∀(i:Nat) (r:List T),(ps.foldl (fun rs p=>rs.set p.1 p.2) rows)[i]? =some r→r.length=sz)∧
   (ps.foldl (fun rs p=>rs.set p.1 p.2) rows).length=len∧cells'.size=cells.size∧
   (∀(i j:Nat) (r:List T) (t:T),(ps.foldl (fun rs p=>rs.set p.1 p.2) rows)[i]? =some r→r[j]? =some t→a7 t)
 |[],[],ps,rows,cells,_,h,hl,hw,hc,hr=>by simp[bB] at h;subst h;exact⟨cells,rfl,hr,hw,hl,rfl,hc⟩
 |(i,x)::parts,(j,y)::qs,ps,rows,cells,hok,h,hl,hw,hc,hr=>by
  simp only[eP,ae,beq_iff_eq] at hok;obtain⟨⟨rfl,hx⟩,hrest⟩:=hok;simp only[bB] at h;split at h
  ·rename_i p ps' hpp hps;cases h;split at hpp
   ·rename_i cs hcs;split at hpp
    ·rename_i hcd;simp only[ab] at hpp;obtain⟨cs',hcl,rfl⟩:=hpp;have hrep:=kq R hcl (dJ R hx hcs);have hclo:=fS R hcl (dJ R hx hcs);have hlen:=hrep.1;have hlen0:=(dJ R hx hcs).1;have hcl2:cs'.length=sz:=by omega
     have hcells:cells.size=len*sz:=by have:=hr.1;rw[cQ hw,hl] at this;simpa using this.symm
     have hfit:i*sz+sz≤cells.size:=by
      rw[hcells];have:=aU sz (show i+1≤len from hcd.2);rw[Nat.add_mul,Nat.one_mul] at this;exact this
     obtain⟨cells',g1,g2,g3⟩:=jI (fun i=>some (i*sz,sz)) cells i (a.eval y) (qs.map fun q=>(q.1,a.eval q.2)) rfl (by simp at hlen;omega) hfit;obtain⟨k1,k2⟩:=n4 hw hp hr hrep hcl2 (by omega) g2 g3;have k3:∀(k j:Nat) (r:List T) (t:T),(rows.set i cs')[k]? =some r→r[j]? =some t→a7 t:=by
      intro k j r t hr ht;rw[List.getElem?_set] at hr;split at hr
      ·split at hr
       ·cases hr;exact hclo j t ht
       ·cases hr
      ·exact hc k j r t hr ht
     obtain⟨c2,m1,m2,m3,m4,m5,m6⟩:=fQ R hp hrest hps (by simpa using hl) k2 k3 k1;refine⟨c2, ?_,m2,m3,m4,by rw[m5,g2],m6⟩;simp only[aY];rw[g1];exact m1
    ·cases hpp
   ·cases hpp
  ·cases h
 |[],_::_,_,_,_,hok,_,_,_,_,_=>by simp[eP] at hok
 |_::_,[],_,_,_,hok,_,_,_,_,_=>by simp[eP] at hok
theorem l7(R:Rel F Pr w0 lb N E n t o a w){nn:Nat}{n':Nat→Prop}(hn:Fr n nn n'){cf:ay}{d sz len:Nat}{zero:List T}{parts:List (Nat×O)}{oper:Oper}(hok:bq P F (.cd sz len zero parts) oper.op=true){v:V}{bf:List (Nat×Ob)}
  (h:act cf nn d t o (.cd sz len zero parts)=some (v,bf)):eE P F Pr w0 lb N n' t o a w oper v bf:=by
 cases hop:oper.op with
 |buildSlice ty len' qs=>
  rw[hop] at hok;simp only[bq] at hok;split at hok
  ·rename_i e he;simp only[ae,beq_iff_eq,decide_eq_true_eq] at hok;obtain⟨⟨⟨⟨⟨hsz,rfl⟩,hpos⟩,hbig⟩,hz⟩,hel⟩:=hok;obtain⟨zv,hzv,hzr,hzs,hzc⟩:=dM (P:=P) (X:=cx F Pr E o w) hz;have hzl:zero.length=sz:=by rw[hsz] at hzs;exact(Option.some.inj hzs).symm
   have hcs:zv.cells.size=sz:=by have:=hzr.1;simp at this;omega
   simp only[act,ab,ah] at h;obtain⟨ps,hmp,rfl,rfl⟩:=h;have hfl:=cv hzr (by omega) len;have hL:bw (cx F Pr E o w) (List.replicate len zero).flatten (Builtin.zeroCells zv.cells len).toList:=by rw[hfl];exact hzr.replicate len
   obtain⟨cells',g1,g2,g3,g4,g5,g6⟩:=fQ R hpos hel hmp (by simp) (by intro i r hr;rw[c_ i r hr,hzl]) (dN hzc) hL;have hsize:cells'.size=len*sz:=by rw[g5];simp[Builtin.zeroCells,hcs]
   obtain⟨R2,K⟩:=R.iT d nn n' {aw:=nn,sz:=sz,w:=true,bx:=false,rows:=ps.foldl (fun rs p=>rs.set p.1 p.2) (List.replicate len zero)} rfl hn cells'.toList cells' e (0,0) len (w':={w with heap:=w.heap.push (.cells cells' e)}) rfl rfl rfl rfl
    (by rw[g4];exact Nat.le_refl _) g3 g2 hsize (by simp) (by intro q v hq;simpa using hq) (fun _=>g6)
   refine⟨.slice (some (bI w.heap.size)) len len,_,_,.inl ?_,R2,.c _ _ (dc (sz:=sz) (b:=w.heap.size) (by simp[cx,E1]) (Nat.le_refl _))⟩;have hrun:(Instr.buildSlice ty len (qs.map fun q=>(q.1,a.eval q.2))).run P w= .ok (.slice (some (bI w.heap.size)) len len) {w with heap:=w.heap.push (.cells cells' e)}:=by
    have hbig':¬(len*sz>2^24):=by omega
    have hfill:Instr.fill (fun i=>some (i*sz,sz)) ((Array.range (len*sz)).map (zv.cells[·%zv.cells.size]!)) (qs.toList.map fun q=>(q.1,a.eval q.2))=some cells':=by
     have:(Array.range (len*sz)).map (zv.cells[·%zv.cells.size]!)=Builtin.zeroCells zv.cells len:=by rw[←hcs];rfl
     rw[this];exact g1
    by_cases hz0:len*sz=0
    ·have hl0:len=0:=by rcases Nat.mul_eq_zero.1 hz0 with q|q<;>omega
     subst hl0;have h0:(Array.range (0*sz)).map (fun x=>(#[]:Array Value)[x%(#[]:Array Value).size]!)=(Array.range (0*sz)).map (zv.cells[·%zv.cells.size]!):=by simp
     simp only[Instr.buildSlice,Sem.run_bind,run_underlying (bU he),Result.andThen_ok,bu hsz,hz0,if_true];rw[show 0*sz=0 from by simp] at*;simp only[Array.toList_map,Array.range_zero',Array.map_empty] at hfill ⊢;simp[hfill,newRow,bI]
    ·simp[Instr.buildSlice,run_underlying (bU he),bu hsz,hbig',hz0,cL hzv,hfill,newRow,bI]
   simp only[execOp,hop,Sem.run_bind,hrun];rfl
  ·cases hok
 |_=>rw[hop] at hok;simp[bq] at hok
theorem o6(R:Rel F Pr w0 lb N E n t o a w){nn:Nat}{n':Nat→Prop}(hn:Fr n nn n'){cf:ay}{d sz len:Nat}{zero:List T}{parts:List (Nat×O)}{oper:Oper}(hok:bq P F (.ie sz len zero parts) oper.op=true){v:V}{bf:List (Nat×Ob)}
  (h:act cf nn d t o (.ie sz len zero parts)=some (v,bf)):eE P F Pr w0 lb N n' t o a w oper v bf:=by
 cases hop:oper.op with
 |buildSlice ty len' qs=>
  rw[hop] at hok;simp only[bq] at hok;split at hok
  ·rename_i e he;simp only[ae,beq_iff_eq,decide_eq_true_eq] at hok;obtain⟨⟨⟨⟨⟨hsz,rfl⟩,hpos⟩,hbig⟩,hz⟩,hel⟩:=hok;obtain⟨zv,hzv,hzr,hzs,hzc⟩:=dM (P:=P) (X:=cx F Pr E o w) hz;have hzl:zero.length=sz:=by rw[hsz] at hzs;exact(Option.some.inj hzs).symm
   have hcs:zv.cells.size=sz:=by have:=hzr.1;simp at this;omega
   simp only[act,ab,ah] at h;obtain⟨ps,hmp,rfl,rfl⟩:=h;have hfl:=cv hzr (by omega) len;have hL:bw (cx F Pr E o w) (List.replicate len zero).flatten (Builtin.zeroCells zv.cells len).toList:=by rw[hfl];exact hzr.replicate len
   obtain⟨cells',g1,g2,g3,g4,g5,g6⟩:=fQ R hpos hel hmp (by simp) (by intro i r hr;rw[c_ i r hr,hzl]) (dN hzc) hL;have hsize:cells'.size=len*sz:=by rw[g5];simp[Builtin.zeroCells,hcs]
   obtain⟨R2,K⟩:=R.iT d nn n' {aw:=nn,sz:=sz,w:=false,bx:=false,rows:=ps.foldl (fun rs p=>rs.set p.1 p.2) (List.replicate len zero)} rfl hn cells'.toList cells' e (0,0) len (w':={w with heap:=w.heap.push (.cells cells' e)}) rfl rfl rfl rfl
    (by rw[g4];exact Nat.le_refl _) g3 g2 hsize (by simp) (by intro q v hq;simpa using hq) (fun _=>g6)
   refine⟨.slice (some (bI w.heap.size)) len len,_,_,.inl ?_,R2,.c _ _ (dc (sz:=sz) (b:=w.heap.size) (by simp[cx,E1]) (Nat.le_refl _))⟩;have hrun:(Instr.buildSlice ty len (qs.map fun q=>(q.1,a.eval q.2))).run P w= .ok (.slice (some (bI w.heap.size)) len len) {w with heap:=w.heap.push (.cells cells' e)}:=by
    have hbig':¬(len*sz>2^24):=by omega
    have hfill:Instr.fill (fun i=>some (i*sz,sz)) ((Array.range (len*sz)).map (zv.cells[·%zv.cells.size]!)) (qs.toList.map fun q=>(q.1,a.eval q.2))=some cells':=by
     have:(Array.range (len*sz)).map (zv.cells[·%zv.cells.size]!)=Builtin.zeroCells zv.cells len:=by rw[←hcs];rfl
     rw[this];exact g1
    by_cases hz0:len*sz=0
    ·have hl0:len=0:=by rcases Nat.mul_eq_zero.1 hz0 with q|q<;>omega
     subst hl0;have h0:(Array.range (0*sz)).map (fun x=>(#[]:Array Value)[x%(#[]:Array Value).size]!)=(Array.range (0*sz)).map (zv.cells[·%zv.cells.size]!):=by simp
     simp only[Instr.buildSlice,Sem.run_bind,run_underlying (bU he),Result.andThen_ok,bu hsz,hz0,if_true];rw[show 0*sz=0 from by simp] at*;simp only[Array.toList_map,Array.range_zero',Array.map_empty] at hfill ⊢;simp[hfill,newRow,bI]
    ·simp[Instr.buildSlice,run_underlying (bU he),bu hsz,hbig',hz0,cL hzv,hfill,newRow,bI]
   simp only[execOp,hop,Sem.run_bind,hrun];rfl
  ·cases hok
 |_=>rw[hop] at hok;simp[bq] at hok
theorem qH(R:Rel F Pr w0 lb N E n t o a w){nn:Nat}{n':Nat→Prop}(hn:Fr n nn n'){cf:ay}{d:Nat}{x:O}{oper:Oper}(hok:bq P F (.qV x) oper.op=true){v:V}{bf:List (Nat×Ob)}
  (h:act cf nn d t o (.qV x)=some (v,bf)):eE P F Pr w0 lb N n' t o a w oper v bf:=by
 cases hop:oper.op with
 |convert s dt y=>
  rw[hop] at hok;simp only[bq] at hok;split at hok
  ·rename_i e he;simp only[ae,beq_iff_eq] at hok;obtain⟨⟨⟨hu8,hsz⟩,hstr⟩,hx⟩:=hok;simp only[act] at h;split at h
   ·rename_i z hz;split at h
    ·rename_i rows hrows;split at h;rotate_left
     ·cases h
     rename_i hcd;simp only[ab,ah] at h;obtain⟨bs,hbs,rfl,rfl⟩:=h;have hr:=aX R hx hz;generalize hv:a.eval y=val at hr;obtain⟨A,c,cs,rfl,hwid,hclo,hL,hcl,hfc⟩:=eM (P:=P) R hr hrows (sz:=1) (fun hne=>hcd.resolve_left (by simpa using hne)) (by decide);have key:∀(rows:List (List T)) (bs:List UInt8),dk rows=some bs→∃ns:List Int,rows=ns.map (fun m=>[T.int .u8 m])∧bs=ns.map fun m=>UInt8.ofNat m.toNat:=by
      intro rows;unfold dk
      induction rows with
      |nil=>intro bs h;simp[bB] at h;subst h;exact⟨[],rfl,rfl⟩
      |cons r rows ih=>
       intro bs h;simp only[bB] at h;split at h
       ·rename_i b bs' h1 h2;cases h;obtain⟨ns,e1,e2⟩:=ih bs' h2;split at h1
        ·rename_i m;cases h1;exact⟨m::ns,by simp[e1],by simp[e2]⟩
        ·cases h1
       ·cases h
     obtain⟨ns,e1,e2⟩:=key rows bs hbs;have hst:ByteArray.mk bs.toArray=ns.foldl (fun r m=>r.push (UInt8.ofNat m.toNat)) ByteArray.empty:=by
      subst e2;have:∀(ns:List Int) (s:ByteArray),ns.foldl (fun r m=>r.push (UInt8.ofNat m.toNat)) s=⟨s.data++(ns.map fun m=>UInt8.ofNat m.toNat).toArray⟩:=by
       intro ns
       induction ns with
       |nil=>intro s;simp
       |cons m ns ih=>
        intro s;simp only[iA,ih,aY];congr 1;simp[ByteArray.push]
      rw[this];simp[ByteArray.empty,ByteArray.emptyWithCapacity];rfl
     refine aJ R hn.cU (val:= .string ⟨bs.toArray⟩) ?_ (.c _ _ (.str _));have hrun:(convert s dt (.slice A rows.length c)).run P w= .ok (.string ⟨bs.toArray⟩) w:=by
      rw[run_convert_bytes_string (P:=P) w s dt e A rows.length c (bU he) (il hu8) (fz hstr)];have hns:ns=[]∨ns≠[]:=by by_cases q:ns=[]<;>simp[q]
      rcases hns with q|q
      ·subst q;simp only[bX] at e1 e2;subst e1 e2;cases A with
       |none=>simp[Conv.bytesToString];rfl
       |some ad=>simp[Conv.bytesToString,loadCells,loadCellsFrom];rfl
      ·have hcs:cs=ns.map (Value.int .u8):=by
        apply List.ext_getElem?;intro k;have hfl:rows.flatten=ns.map (fun m=>T.int .u8 m):=by
         rw[e1];clear hwid hclo hL hcl hfc e1 e2 q hst hrows hr hv hcd hbs
         induction ns with
         |nil=>rfl
         |cons m ns ih=>simp only[aY,List.flatten_cons,ih];rfl
        rw[hfl] at hL;by_cases hk:k<ns.length
        ·have hk2:k<cs.length:=by rw[←hL.1];simpa using hk
         have:=hL.2 k (T.int .u8 ns[k]) cs[k] (by simp[hk]) (by simp[hk2]);rw[cg hk2,this.dF];simp[hk]
        ·rw[cz (by rw[←hL.1];simpa using hk),cz (by simpa using hk)]
       have hfc0:(Builtin.firstCells 1 rows.length (.slice A rows.length c)).run P w= .ok cs.toArray w:=hfc w.drawn;cases A with
       |none=>
        simp[Builtin.firstCells] at hfc0;rw[hcs] at hfc0;simp at hfc0;exact(q hfc0).elim
       |some ad=>
        have hload:(loadCells ad rows.length).run P w= .ok (ns.map (Value.int .u8)).toArray w:=by
         simp only[Builtin.firstCells,Nat.mul_one] at hfc0;rw[hfc0,hcs]
        rw[run_bytesToString (P:=P) w ad rows.length c ns hload,hst]
     simp only[execOp,hop,hv,Sem.run_bind,hrun];rfl
    ·cases h
   ·cases h
  ·simp at hok
 |_=>rw[hop] at hok;simp[bq] at hok
end Mx
namespace Mx
open Go
def jd(P:Program):Nat→TypeId→Option (List Kc)
 |0,_=>none
 |d+1,t=>
  match P.underlying t with
  |some .bool=>some [.bool]
  |some (.int _)=>some [.int]
  |some .string=>some [.str]
  |some (.struct fs)=>if P.stoodInHeld t then none else
   fs.toList.foldl (fun (acc:Option (List Kc)) (f:Field)=>match acc with
    |none=>none
    |some l=>if f.name≠ "_" ∧f.offset=l.length then(match jd P d f.type with|some k=>if cj P f.type=some k.length∧0<k.length then some (l++k) else none|none=>none) else none) (some [])
  |_=>none
variable {P:Program} {F:Nat→FuncId} {Pr:Nat→Prop} {w0:World} {lb:Lb} {N:Nat} {E:Nat→Option Loc} {n:Nat→Prop} {t:List (Nat×V)} {o:List (Nat×Ob)} {a:Act} {w:World}
def valOf(P:Program)(t:TypeId)(cs:List Value):Value:=if df P t=some true then .agg cs.toArray else cs.headD undef
theorem kK{ty:TypeId}{cs:Array Value}{off k:Nat}(hk:cj P ty=some k)(h0:0<k)(hf:off+k≤cs.size)(ha:df P ty=some true∨(df P ty=some false∧k=1)):
  (part ty cs off).run P w= .ok (valOf P ty ((cs.toList.drop off).take k)) w:=by
 rcases ha with ha|⟨ha,rfl⟩
 ·simp only[part,Sem.run_bind,cM ha,Result.andThen_ok,if_true,bu hk,Sem.run_pure,valOf,ha];congr 2;apply Array.ext';simp[List.take_drop]
 ·have:off<cs.size:=by omega
  simp only[part,Sem.run_bind,cM ha,Result.andThen_ok,av,if_false,valOf,ha];simp[this,List.take_one,List.head?_drop]
theorem kj:∀{ks:List Kc} {xs ys:List T} {b:Bool},jK ks xs ys=some b→xs.length=ks.length∧ys.length=ks.length
 |[],[],[],_,_=>⟨rfl,rfl⟩
 |k::ks,x::xs,y::ys,b,h=>by
  simp only[jK] at h;split at h
  ·split at h
   ·rename_i hc;have:=kj hc;simp[this.1,this.2]
   ·cases h
  ·cases h
 |[],_::_,_,_,h=>by simp[jK] at h
 |[],[],_::_,_,h=>by simp[jK] at h
 |_::_,[],_,_,h=>by simp[jK] at h
 |_::_,_::_,[],_,h=>by simp[jK] at h
theorem lT{ks ls:List Kc}{xs us ys vs:List T}(hl:xs.length=ks.length)(hl2:ys.length=ks.length){b:Bool}(h:jK (ks++ls) (xs++us) (ys++vs)=some b):∃b1 b2,jK ks xs ys=some b1∧jK ls us vs=some b2∧b=(b1&&b2):=by
 induction ks generalizing xs ys b with
 |nil=>cases xs with
  |nil=>cases ys with
   |nil=>exact⟨true,b,rfl,h,by simp⟩
   |cons=>simp at hl2
  |cons=>simp at hl
 |cons k ks ih=>cases xs with
  |nil=>simp at hl
  |cons x xs=>cases ys with
   |nil=>simp at hl2
   |cons y ys=>
    simp only[List.cons_append,jK] at h;split at h
    ·rename_i b0 h0;split at h
     ·rename_i c hc;cases h;obtain⟨b1,b2,h1,h2,rfl⟩:=ih (by simpa using hl) (by simpa using hl2) hc;exact⟨b0&&b1,b2,by simp[jK,h0,h1],h2,by simp[Bool.and_assoc]⟩
     ·cases h
    ·cases h
theorem k0{d:Nat}{ty:TypeId}{k:List Kc}(h:jd P d ty=some k):df P ty=some true∨(df P ty=some false∧k.length=1):=by
 cases d with
 |zero=>simp[jd] at h
 |succ d=>
  simp only[jd] at h;split at h
  ·rename_i hu;cases h;right;simp[df,hu]
  ·rename_i hu;cases h;right;simp[df,hu]
  ·rename_i hu;cases h;right;simp[df,hu]
  ·rename_i hu;left;simp[df,hu]
  ·cases h
def fR(P:Program)(d:Nat)(acc:Option (List Kc))(f:Field):Option (List Kc):=match acc with
 |none=>none
 |some l=>if f.name≠ "_" ∧f.offset=l.length then(match jd P d f.type with|some k=>if cj P f.type=some k.length∧0<k.length then some (l++k) else none|none=>none) else none
theorem gZ(d:Nat)(fs:List Field):fs.foldl (fR P d) none=none:=by
 induction fs with
 |nil=>rfl
 |cons f fs ih=>exact ih
theorem gY{d:Nat}{l m:List Kc}{f:Field}(h:fR P d (some l) f=some m):∃k,f.name≠ "_" ∧f.offset=l.length∧jd P d f.type=some k∧cj P f.type=some k.length∧0<k.length∧m=l++k:=by
 simp only[fR] at h;split at h
 ·rename_i h1;split at h
  ·rename_i k hk;split at h
   ·rename_i h2;cases h;exact⟨k,h1.1,h1.2,hk,h2.1,h2.2,rfl⟩
   ·cases h
  ·cases h
 ·cases h
theorem jJ{d:Nat}:∀{fs:List Field} {l k:List Kc},fs.foldl (fR P d) (some l)=some k→∃m,k=l++m
 |[],l,k,h=>by simp at h;exact⟨[],by simp[h]⟩
 |f::fs,l,k,h=>by
  simp only[iA] at h;cases hs:fR P d (some l) f with
  |none=>rw[hs,gZ] at h;cases h
  |some m=>
   rw[hs] at h;obtain⟨k',_,_,_,_,_,rfl⟩:=gY hs;obtain⟨m,rfl⟩:=jJ h;exact⟨k'++m,by simp⟩
theorem gd{X:Cx}{d D:Nat}(ih:∀(ty:TypeId) (k:List Kc) (xs ys:List T) (vx vy:List Value) (b:Bool),jd P d ty=some k→bw X xs vx→bw X ys vy→jK k xs ys=some b→
   (Op.equalIn D ty (valOf P ty vx) (valOf P ty vy)).run P w= .ok b w) {xs ys:List T} {vx vy:Array Value} (hx:bw X xs vx.toList) (hy:bw X ys vy.toList):
  ∀{fs:List Field} {l m:List Kc} {b:Bool},fs.foldl (fR P d) (some l)=some (l++m)→xs.length=(l++m).length→ys.length=(l++m).length→jK m (xs.drop l.length) (ys.drop l.length)=some b→(Op.eqFields D vx vy fs).run P w= .ok b w
 |[],l,m,b,h,hxl,hyl,he=>by
  simp at h;subst h;simp only[b_] at hxl hyl;rw[List.drop_of_length_le (by omega),List.drop_of_length_le (by omega)] at he;simp[jK] at he;subst he;simp[Op.eqFields]
 |f::fs,l,m,b,h,hxl,hyl,he=>by
  simp only[iA] at h;cases hs:fR P d (some l) f with
  |none=>rw[hs,gZ] at h;cases h
  |some l2=>
   rw[hs] at h;obtain⟨k',h1,h2,h3,h4,h5,rfl⟩:=gY hs;obtain⟨m2,hm2⟩:=jJ h;have hm:m=k'++m2:=by rw[bh] at hm2;exact List.append_cancel_left hm2
   subst hm;simp only[a_] at hxl hyl;have ex:xs.drop l.length=(xs.drop l.length).take k'.length++xs.drop (l.length+k'.length):=by rw[←List.drop_drop];exact(ea k'.length _).symm
   have ey:ys.drop l.length=(ys.drop l.length).take k'.length++ys.drop (l.length+k'.length):=by rw[←List.drop_drop];exact(ea k'.length _).symm
   rw[ex,ey] at he;obtain⟨b1,b2,e1,e2,rfl⟩:=lT (by simp;omega) (by simp;omega) he;have hxs:vx.size=xs.length:=by have:=hx.1;simpa using this.symm
   have hys:vy.size=ys.length:=by have:=hy.1;simpa using this.symm
   have p1:=kK (P:=P) (w:=w) (cs:=vx) (off:=l.length) h4 h5 (by omega) (k0 h3);have p2:=kK (P:=P) (w:=w) (cs:=vy) (off:=l.length) h4 h5 (by omega) (k0 h3);have p3:=ih f.type k' ((xs.drop l.length).take k'.length) ((ys.drop l.length).take k'.length) ((vx.toList.drop l.length).take k'.length) ((vy.toList.drop l.length).take k'.length) b1 h3 ((hx.drop _).take _) ((hy.drop _).take _) e1;have p4:=gd ih hx hy (l:=l++k') (m:=m2) (b:=b2) (by rw[bh];exact h) (by simp;omega) (by simp;omega) (by simpa using e2);simp only[Op.eqFields,ne_eq,h1,not_false_eq_true,if_true,h2,Sem.run_bind,p1,p2,Result.andThen_ok,p3,Sem.run_ite,p4,Sem.run_pure];cases b1<;>simp
theorem kh{k:Kc}{xs ys:List T}{b:Bool}(h:jK [k] xs ys=some b):∃x y,xs=[x]∧ys=[y]∧rN k x y=some b:=by
 obtain⟨l1,l2⟩:=kj h
 match xs,ys,l1,l2 with
 |[x],[y],_,_=>
  refine⟨x,y,rfl,rfl, ?_⟩;simp only[jK] at h;split at h
  ·rename_i b0 hb0;simp at h;rw[hb0,h]
  ·cases h
theorem ee{X:Cx}{x:T}{vs:List Value}(h:bw X [x] vs):∃v,vs=[v]∧bN X x v:=by
 obtain⟨v,vs',rfl,h1,h2⟩:=h.iD;have:=h2.1;cases vs' with
 |nil=>exact⟨v,rfl,h1⟩
 |cons=>simp at this
theorem nW{X:Cx}:∀(d:Nat) (D:Nat) (ty:TypeId) (k:List Kc) (xs ys:List T) (vx vy:List Value) (b:Bool),d≤D→jd P d ty=some k→bw X xs vx→bw X ys vy→jK k xs ys=some b→
  (Op.equalIn D ty (valOf P ty vx) (valOf P ty vy)).run P w= .ok b w:=by
 intro d
 induction d with
 |zero=>intro D ty k xs ys vx vy b _ h;simp[jd] at h
 |succ d ih=>
  intro D ty k xs ys vx vy b hD h hx hy he;obtain⟨D,rfl⟩:∃D',D=D'+1:=⟨D-1,by omega⟩
  simp only[jd] at h;split at h
  ·rename_i hu;cases h;obtain⟨x,y,rfl,rfl,h3⟩:=kh he;obtain⟨v,rfl,h1⟩:=ee hx;obtain⟨u,rfl,h2⟩:=ee hy;have ha:df P ty=some false:=by simp[df,hu]
   simp only[valOf,ha];unfold rN at h3;split at h3<;>first|contradiction|skip
   cases h3;rw[h1.gr,h2.gr];exact run_equalIn_bool hu D _ _
  ·rename_i k' hu;cases h;obtain⟨x,y,rfl,rfl,h3⟩:=kh he;obtain⟨v,rfl,h1⟩:=ee hx;obtain⟨u,rfl,h2⟩:=ee hy;have ha:df P ty=some false:=by simp[df,hu]
   simp only[valOf,ha];unfold rN at h3;split at h3<;>first|contradiction|skip
   split at h3
   ·rename_i hk;subst hk;cases h3;rw[h1.dF,h2.dF];exact run_equalIn_int w D ty _ k' _ _ hu
   ·cases h3
  ·rename_i hu;cases h;obtain⟨x,y,rfl,rfl,h3⟩:=kh he;obtain⟨v,rfl,h1⟩:=ee hx;obtain⟨u,rfl,h2⟩:=ee hy;have ha:df P ty=some false:=by simp[df,hu]
   simp only[valOf,ha];unfold rN at h3;split at h3<;>first|contradiction|skip
   cases h3;rw[h1.eG,h2.eG];have hbd:∀(a b:List UInt8),decide (a=b)=(a==b):=fun a b=>by rw[Bool.eq_iff_iff];simp
   rw[hbd];exact run_equalIn_string w D ty _ _ hu
  ·rename_i fs hu;split at h
   ·cases h
   ·rename_i hs;have ha:df P ty=some true:=by simp[df,hu]
    simp only[valOf,ha,if_true];have hf:P.fieldsOf ty=fs:=by simp[Program.fieldsOf,hu]
    rw[run_equalIn_agg w D ty _ _ (by rw[hf];exact hu) (by simpa using hs),hf];obtain⟨l1,l2⟩:=kj he;exact gd (d:=d) (fun ty k xs ys vx vy b h1 h2 h3 h4=>ih D ty k xs ys vx vy b (by omega) h1 h2 h3 h4) (by simpa using hx) (by simpa using hy) (l:=[]) (m:=k) h (by simpa using l1) (by simpa using l2) (by simpa using he)
  ·cases h
def pL(P:Program)(F:Nat→FuncId)(neg:Bool)(ks:List Kc)(x y:O):Op→Bool
 | .binOp op t x' y' _=>(op==if neg then .neq else .eql)&&(jd P 8 t==some ks)&&(df P t==some true)&& !(P.eqGuardType P.depth t)&&okO F x x'&&okO F y y'
 |_=>false
theorem mJ(R:Rel F Pr w0 lb N E n t o a w){nn:Nat}{n':Nat→Prop}(hn:Fr n nn n'){cf:ay}{d:Nat}{neg:Bool}{ks:List Kc}{x y:O}{oper:Oper}(hok:pL P F neg ks x y oper.op=true)
  {v:V} {bf:List (Nat×Ob)}
  (h:act cf nn d t o (.eqs neg ks x y)=some (v,bf)):eE P F Pr w0 lb N n' t o a w oper v bf:=by
 cases hop:oper.op with
 |binOp op ty x' y' ty'=>
  rw[hop] at hok;simp only[pL,ae,beq_iff_eq,Bool.not_eq_true'] at hok;obtain⟨⟨⟨⟨⟨rfl,he⟩,hagg⟩,hg⟩,hx⟩,hy⟩:=hok;simp only[act] at h;split at h
  ·rename_i xs ys h1 h2;simp only[ab,ah] at h;obtain⟨b,hb,rfl,rfl⟩:=h;unfold iV at h1 h2;split at h1
   ·rename_i ts1 hv1;split at h2
    ·rename_i ts2 hv2;cases h1;cases h2;have r1:=cm R hx hv1;have r2:=cm R hy hv2;generalize e1:a.eval x'=val1 at r1;generalize e2:a.eval y'=val2 at r2;cases r1 with
     |a _ cs1 hn1 hh1=>cases r2 with
      |a _ cs2 hn2 hh2=>
       have q:=nW (P:=P) (w:=w) 8 10000 ty ks xs ys cs1.toList cs2.toList b (by omega) he ⟨by simpa using hn1,fun i t v h1 h2=>hh1 i t v h1 (by simpa using h2)⟩ ⟨by simpa using hn2,fun i t v h1 h2=>hh2 i t v h1 (by simpa using h2)⟩ hb;simp only[valOf,hagg,if_true] at q;refine aJ R hn.cU (val:= .bool (if neg then !b else b)) ?_ (.c _ _ (.bool _));cases neg
       ·simp only[execOp,hop,e1,e2,Sem.run_bind,run_eqGuard_agg w _ ty x' y' cs1 cs2 hg,Result.andThen_ok,av,if_false,run_eql_struct,q];rfl
       ·simp only[execOp,hop,e1,e2,Sem.run_bind,run_eqGuard_agg w _ ty x' y' cs1 cs2 hg,Result.andThen_ok,if_true,run_neq_struct,q];rfl
    ·cases h2
   ·cases h1
  ·cases h
 |_=>rw[hop] at hok;simp[pL] at hok
end Mx
namespace Mx
open Go
variable {P:Program} {F:Nat→FuncId} {Pr:Nat→Prop} {w0:World} {lb:Lb} {N:Nat} {E:Nat→Option Loc} {n:Nat→Prop} {t:List (Nat×V)} {o:List (Nat×Ob)} {a:Act} {w:World}
theorem bN.qT{X Y:Cx}(hF:Y.F=X.F)(hc:∀ad v,¬X.U ad.block→X.w.cell? ad=some v→Y.w.cell? ad=some v∧¬Y.U ad.block){t:T}{v:Value}(h:bN X t v)(k:a7 t):bN Y t v:=by
 induction h with
 |int k n=>exact .int _ _
 |bool b=>exact .bool b
 |str s=>exact .str s
 |dm sz=>exact .dm sz
 |sl own sz rows A c vs h1 hsz hcell hrep hcl ih=>
  refine .sl own sz rows A c vs h1 hsz ?_ (fun i j r t hr ht=>ih i j r t hr ht (hcl i j r t hr ht)) hcl;intro i j r t hr ht;obtain⟨ad,rfl,hu,hw⟩:=hcell i j r t hr ht;have hb:¬X.U (ad.add (i*sz+j)).block:=by rw[bZ];exact hu
  have:=hc _ _ hb hw;rw[bZ] at this;exact⟨ad,rfl,this.2,this.1⟩
 |row=>cases k
 |dE=>cases k
 |ptr=>cases k
 |vp cells j ad vs hcell hrep hcl ih=>
  refine .vp cells j ad vs ?_ (fun q t ht=>ih q t ht (hcl q t ht)) hcl;intro q t ht;obtain⟨hu,hw⟩:=hcell q t ht;have hb:¬X.U (ad.add q).block:=by rw[bZ];exact hu
  have:=hc _ _ hb hw;rw[bZ] at this;exact⟨this.2,this.1⟩
 |fn f caps cs hn hrep ih=>
  rw[←hF];cases k with
  |fn _ _ hcl=>exact .fn f caps cs hn fun i t v ht hv=>ih i t v ht hv (hcl i t ht)
theorem bN.scalar{X Y:Cx}{t:T}{v:Value}(h:bN X t v)(k:t.scalar=true):bN Y t v:=by
 cases h<;>first|(simp[T.scalar] at k;done)|constructor
theorem bV{α β:Type}{f:α→Option β}:∀{l:List α} {l':List β},bB f l=some l'→l'.length=l.length
 |[],l',h=>by simp[bB] at h;subst h;rfl
 |x::l,l',h=>by
  simp only[bB] at h;split at h
  ·rename_i y ys hy hys;cases h;simp[bV hys]
  ·cases h
theorem cD{α β:Type}{f:α→Option β}:∀{l:List α} {l':List β},bB f l=some l'→∀{i:Nat} {y:β},l'[i]? =some y→∃x,l[i]? =some x∧f x=some y
 |[],l',h,i,y,hy=>by simp[bB] at h;subst h;simp at hy
 |x::l,l',h,i,y,hy=>by
  simp only[bB] at h;split at h
  ·rename_i z zs hz hzs;cases h;cases i with
   |zero=>simp at hy;subst hy;exact⟨x,by simp,hz⟩
   |succ i=>
    obtain⟨x',h1,h2⟩:=cD hzs (i:=i) (y:=y) (by simpa using hy);exact⟨x',by simpa using h1,h2⟩
  ·cases h
theorem gG{α β:Type}{f:α→Option β}{l:List α}{l':List β}(h:bB f l=some l'){i:Nat}{x:α}(hx:l[i]? =some x):∃y,l'[i]? =some y∧f x=some y:=by
 have hi:i<l'.length:=by rw[bV h];exact(List.getElem?_eq_some_iff.1 hx).1
 obtain⟨x',h1,h2⟩:=cD h (i:=i) (y:=l'[i]) (by simp[hi]);rw[hx] at h1;cases h1;exact⟨l'[i],by simp[hi],h2⟩
def lp(E:Nat→Option Loc)(o:List (Nat×Ob))(id b:Nat):Prop:=∃ob cap sz,get o id=some ob∧E ob.aw=some (.cK b cap sz)
structure Reads (F:Nat→FuncId) (Pr:Nat→Prop) (E:Nat→Option Loc) (o:List (Nat×Ob)) (w:World) (B:List Nat) (X:Cx):Prop where
 hF:X.F=F
 hw:X.w=w
 u:∀b,¬(cx F Pr E o w).U b→¬X.U b
 b:∀id∈B,∀b,lp E o id b→¬X.U b
theorem Reads.move{B:List Nat}{X:Cx}(D:Reads F Pr E o w B X){x:T}{v:Value}(h:bN (cx F Pr E o w) x v)(k:a7 x):bN X x v:=
 h.qT (by rw[D.hF];rfl) (fun ad v hu hc=>⟨by rw[D.hw];exact hc,D.u _ hu⟩) k
theorem Reads.oo(R:Rel F Pr w0 lb N E n t o a w){B:List Nat}{X:Cx}(D:Reads F Pr E o w B X){id:Nat}{ob:Ob}{b cap sz:Nat}(hg:get o id=some ob)(hE:E ob.aw=some (.cK b cap sz))
  (hb:(ob.w=true→id∈B)):¬X.U b:=by
 cases hw:ob.w with
 |true=>exact D.b id (hb hw) b ⟨ob,cap,sz,hg,hE⟩
 |false=>
  refine D.u b ?_;rintro (⟨id',ob',cap',sz',g1,g2,g3⟩|hpr)
  ·have:=R.d_ id id' ob ob' b cap sz cap' sz' hg g1 hE g3;subst this;rw[hg] at g1;cases g1;rw[hw] at g2;cases g2
  ·have h1:=R.pr.1 b hpr;rcases (R.place id ob b cap sz hg hE).2 with q|q
   ·omega
   ·exact h1.2 q
theorem nY(R:Rel F Pr w0 lb N E n t o a w){B:List Nat}{X:Cx}(D:Reads F Pr E o w B X){id aw off len:Nat}{ob:Ob}{v:Value}(hg:get o id=some ob)(hver:ob.aw=aw)(hfit:off+len≤ob.rows.length)
  (hb:ob.w=true→id∈B) (hbx:ob.bx=false) (hr:bN (cx F Pr E o w) (.row id aw off len) v):bN X (.sl false ob.sz ((ob.rows.drop off).take len)) v:=by
 cases hr with
 |row _ _ _ _ cap sz b hE hl ho=>
  have hnu:=Reads.oo R D hg (by rw[hver];exact hE) hb;obtain⟨e1,h1,h2,hcl,cs,e,fr,m1,m2,m3,m4⟩:=cH R hg hver hE;subst e1;have hlen:((ob.rows.drop off).take len).length=len:=by simp;omega
  have m1':w.heap[b]? =some (.cells cs e fr):=m1;have key:∀(i j:Nat) (r:List T) (t:T),((ob.rows.drop off).take len)[i]? =some r→r[j]? =some t→∃v,cs[(off+i)*ob.sz+j]? =some v∧bN (cx F Pr E o w) t v∧a7 t:=by
   intro i j r t hr ht;rw[aO] at hr;split at hr
   ·rw[bp] at hr;obtain⟨v,q1,q2⟩:=m4 _ _ r t hr ht;exact⟨v,q1,q2,hcl hbx _ _ r t hr ht⟩
   ·cases hr
  have:bN X (.sl false ob.sz ((ob.rows.drop off).take len)) (.slice (some ((bI b).add (off*ob.sz))) ((ob.rows.drop off).take len).length (cap-off)):=by
   refine .sl false ob.sz _ _ _ (fun i j=>cs.getD ((off+i)*ob.sz+j) undef) ?_ ?_ ?_ ?_ ?_
   ·rw[hlen];omega
   ·intro i r hr;rw[aO] at hr;split at hr
    ·rw[bp] at hr;exact h2 _ r hr
    ·cases hr
   ·intro i j r t hr ht;obtain⟨v,hv,_⟩:=key i j r t hr ht;refine⟨_,rfl,by rw[bZ];exact hnu, ?_⟩;rw[add_add,dr,D.hw];simp only[World.cell?,m1',Option.isSome_none,av,if_false,aI];rw[show off*ob.sz+(i*ob.sz+j)=(off+i)*ob.sz+j from by rw[Nat.add_mul];omega,hv];rfl
   ·intro i j r t hr ht;obtain⟨v,hv,hrep,hc⟩:=key i j r t hr ht;simp only[aI,hv,cw];exact D.move hrep hc
   ·intro i j r t hr ht;exact(key i j r t hr ht).choose_spec.2.2
  rw[hlen] at this;exact this
 |dE _ _ hE=>simpa using bN.empty (X:=X) false ob.sz none 0
theorem kU(R:Rel F Pr w0 lb N E n t o a w){B:List Nat}{X:Cx}(D:Reads F Pr E o w B X){x y:T}{v:Value}(h:fN o x=some y)(hb:∀id∈wr o x,id∈B)(hr:bN (cx F Pr E o w) x v):
  bN X y v∧a7 y:=by
 cases x with
 |ptr=>simp[fN] at h
 |fn=>simp[fN] at h
 |int k m=>simp[fN] at h;subst h;cases hr;exact⟨.int _ _,.int _ _⟩
 |bool b=>simp[fN] at h;subst h;cases hr;exact⟨.bool _,.bool _⟩
 |str s=>simp[fN] at h;subst h;cases hr;exact⟨.str _,.str _⟩
 |dm sz=>simp[fN] at h;subst h;cases hr;exact⟨.empty _ _ _ _,.sl _ _ _ (fun i j r t h=>by simp at h)⟩
 |sl own sz rows=>
  simp[fN] at h;subst h;cases hr with
  |sl _ _ _ A c vs h1 h2 h3 h4 h5=>exact⟨D.move (.sl false _ _ A c vs h1 h2 h3 h4 h5) (.sl _ _ _ h5),.sl _ _ _ h5⟩
 |vp cells j=>
  simp[fN] at h;subst h;cases hr with
  |vp _ _ ad vs h1 h2 h3=>exact⟨D.move (.vp _ _ ad vs h1 h2 h3) (.vp _ _ h3),.vp _ _ h3⟩
 |row id aw off len=>
  simp only[fN] at h;split at h
  ·rename_i ob hg;split at h
   ·rename_i hc;cases h;have:=nY R D hg hc.1 hc.2.2 (fun hw=>hb id (by simp[wr,hg,hw])) hc.2.1 hr;refine⟨this, ?_⟩;cases this with
    |sl _ _ _ A c vs h1 h2 h3 h4 h5=>exact .sl _ _ _ h5
   ·cases h
  ·cases h
theorem kT(R:Rel F Pr w0 lb N E n t o a w){B:List Nat}{X:Cx}(D:Reads F Pr E o w B X){x y:T}{v:Value}(h:pq o x=some y)(hb:∀id∈nM o x,id∈B)(hr:bN (cx F Pr E o w) x v):
  bN X y v∧a7 y:=by
 cases x with
 |ptr id aw i j=>
  simp only[pq] at h;split at h
  ·rename_i ob hg;split at h
   ·rename_i hver;split at h
    ·rename_i r hrow;simp only[ab] at h;obtain⟨cells,hm,rfl⟩:=h;simp only[nM,hg,hrow,fa,bL] at hb;cases hr with
     |ptr _ _ _ _ b cap sz hE=>
      have hnu:¬X.U b:=Reads.oo R D hg (by rw[hver];exact hE) (fun hw=>hb id (.inr (by simp[wr,hg,hw])));obtain⟨e1,h1,h2,hcl,cs,e,fr,m1,m2,m3,m4⟩:=cH R hg hver hE;subst e1;have m1':w.heap[b]? =some (.cells cs e fr):=m1;have key:∀(q:Nat) (t:T),cells[j+q]? =some t→∃u,cs[i*ob.sz+(j+q)]? =some u∧bN X t u∧a7 t:=by
       intro q t ht;obtain⟨x,hx,hix⟩:=cD hm ht;obtain⟨u,hu,hru⟩:=m4 i (j+q) r x hrow hx;obtain⟨k1,k2⟩:=kU R D hix (fun id' hid=>hb id' (.inl ⟨x,ch hx,hid⟩)) hru;exact⟨u,hu,k1,k2⟩
      refine⟨.vp cells j _ (fun q=>cs.getD (i*ob.sz+(j+q)) undef) ?_ ?_ ?_,.vp _ _ ?_⟩
      ·intro q t ht;obtain⟨u,hu,_⟩:=key q t ht;refine⟨by rw[bZ];exact hnu, ?_⟩;rw[add_add,dr,D.hw];simp only[World.cell?,m1',Option.isSome_none,av,if_false,aI];rw[show i*ob.sz+j+q=i*ob.sz+(j+q) from by omega,hu];rfl
      ·intro q t ht;obtain⟨u,hu,k1,_⟩:=key q t ht;simp only[aI,hu,cw];exact k1
      ·intro q t ht;exact(key q t ht).choose_spec.2.2
      ·intro q t ht;exact(key q t ht).choose_spec.2.2
    ·cases h
   ·cases h
  ·cases h
 |_=>exact kU R D (by simpa only[pq] using h) (by simpa only[nM] using hb) hr
theorem ke(R:Rel F Pr w0 lb N E n t o a w){B:List Nat}{X:Cx}(D:Reads F Pr E o w B X){x y:T}{v:Value}(h:im o x=some y)(hb:∀id∈mM o x,id∈B)(hr:bN (cx F Pr E o w) x v):
  bN X y v:=by
 cases x with
 |fn f caps=>
  simp only[im,ab] at h;obtain⟨cs,hm,rfl⟩:=h;simp only[mM,bL] at hb;cases hr with
  |fn _ _ vs hn hrep=>
   rw[show (cx F Pr E o w).F=X.F from by rw[D.hF];rfl];refine .fn f cs vs (by rw[bV hm,hn]) ?_;intro i t v ht hv;obtain⟨x,hx,hix⟩:=cD hm ht;exact(kT R D hix (fun id hid=>hb id ⟨x,ch hx,hid⟩) (hrep i x v hx hv)).1
 |_=>exact(kT R D (by simpa only[im] using h) (by simpa only[mM] using hb) hr).1
theorem ot(R:Rel F Pr w0 lb N E n t o a w){B:List Nat}{X:Cx}(D:Reads F Pr E o w B X){x y:V}{v:Value}(h:x.im o=some y)(hb:∀id∈x.wr o,id∈B)(hr:bW (cx F Pr E o w) x v):
  bW X y v:=by
 cases hr with
 |c t v hr=>
  simp only[V.im,ab] at h;obtain⟨y,hy,rfl⟩:=h;exact .c _ _ (ke R D hy hb hr)
 |a ts cs hn hr=>
  simp only[V.im,ab] at h;obtain⟨y,hy,rfl⟩:=h;simp only[V.wr,bL] at hb;refine .a _ _ (by rw[bV hy,hn]) fun i t v ht hv=> ?_
  obtain⟨x,hx,hix⟩:=cD hy ht;exact ke R D hix (fun id hid=>hb id ⟨x,ch hx,hid⟩) (hr i x v hx hv)
 |fW=>simp[V.im] at h
 |undef=>simp[V.im] at h
def jn(lent:List (Nat×Ob))(E0:Nat→Option Loc)(b:Nat):Prop:=∃p ob cap sz,get lent p=some ob∧E0 ob.aw=some (.cK b cap sz)
structure Entry (F:Nat→FuncId) (Pr:Nat→Prop) (E0:Nat→Option Loc) (as:List V) (lent:List (Nat×Ob)) (vals:Array Value) (w:World):Prop where
 n:as.length=vals.size
 args:∀(i:Nat) (v:V) (x:Value),as[i]? =some v→vals[i]? =some x→bW (cx F Pr E0 lent w) v x
 dO:∀p ob,get lent p=some ob→ob.aw=p∧(dn as.length p=true∧p<2000000)∧ob.w=true∧∃l,E0 p=some l∧dy (cx F Pr E0 lent w) ob l
 place:∀p ob b cap sz,get lent p=some ob→E0 ob.aw=some (.cK b cap sz)→b<w.heap.size
 d_:∀id id' ob ob' b cap sz cap' sz',get lent id=some ob→get lent id'=some ob'→E0 ob.aw=some (.cK b cap sz)→E0 ob'.aw=some (.cK b cap' sz')→id=id'
 fresh:∀aw l,E0 aw=some l→aw<2000000
 pr:(∀b,Pr b→b<w.heap.size∧¬jn lent E0 b)∧l_ F (jn lent E0) w
def og:Loc→Nat→Value
 | .nil,_=> .slice none 0 0
 | .cK b cap _,len=> .slice (some (bI b)) len cap
inductive fU (X:Cx) (own:Nat→Option Loc) (lent:List (Nat×Ob)) (q:Nat):T→Value→Prop
 |int (k:IntKind) (n:Int):fU X own lent q (.int k n) (.int k n)
 |bool (b:Bool):fU X own lent q (.bool b) (.bool b)
 |str (s:ByteArray):fU X own lent q (.str s) (.string s)
 |own (sz:Nat) (rows:List (List T)) (l:Loc) (h:own q=some l) (hr:dy X {aw:=0,sz:=sz,w:=true,bx:=false,rows:=rows} l):fU X own lent q (.sl true sz rows) (og l rows.length)
 |box (cells:List T) (b cap:Nat) (h:own q=some (.cK b cap cells.length)) (hr:dy X {aw:=0,sz:=cells.length,w:=true,bx:=true,rows:=[cells]} (.cK b cap cells.length))
   (hc:∀(j:Nat) (t:T),cells[j]? =some t→a7 t):fU X own lent q (.vp cells 0) (.pointer (some (bI b)))
 |sh (sz:Nat) (rows:List (List T)) (v:Value) (h:bN X (.sl false sz rows) v):fU X own lent q (.sl false sz rows) v
 |row (p aw off len:Nat) (v:Value) (h:∀ob,get lent p=some ob→bN X (.row p p off len) v):fU X own lent q (.row p aw off len) v
def nL(X:Cx)(own:Nat→Option Loc)(lent:List (Nat×Ob)):Nat→List T→List Value→Prop
 |_,[],[]=>True
 |q,t::ts,v::vs=>fU X own lent q t v∧nL X own lent (q+1) ts vs
 |_,_,_=>False
def ku(X:Cx)(own:Nat→Option Loc)(lent:List (Nat×Ob))(q:Nat):V→Value→Prop
 | .c t,v=>fU X own lent q t v
 | .a ts,.agg cs=>nL X own lent q ts cs.toList
 |_,_=>False
def V.width:V→Nat
 | .c _=>1
 | .a ts=>ts.length
 |_=>0
def jS(X:Cx)(own:Nat→Option Loc)(lent:List (Nat×Ob)):Nat→List V→List Value→Prop
 |_,[],[]=>True
 |q,t::ts,v::vs=>ku X own lent q t v∧jS X own lent (q+t.width) ts vs
 |_,_,_=>False
def qL(X:Cx)(own:Nat→Option Loc)(lent:List (Nat×Ob)):V→Value→Prop
 | .fW vs,.tuple xs=>jS X own lent 0 vs xs.toList
 |v,x=>ku X own lent 0 v x
def rx(F:Nat→FuncId)(Pr:Nat→Prop)(E0:Nat→Option Loc)(lent:List (Nat×Ob))(E':Nat→Option Loc)(own:Nat→Option Loc)(w':World):Cx:=
 {w:=w',U:=fun b=>jn lent E0 b∨Pr b∨∃q cap sz,own q=some (.cK b cap sz),E:=E',F:=F}
structure qN (F:Nat→FuncId) (Pr:Nat→Prop) (E0:Nat→Option Loc) (lent:List (Nat×Ob)) (w:World) (E':Nat→Option Loc) (own:Nat→Option Loc) (res:V) (after:List (Nat×Ob)) (val:Value) (w':World):Prop where
 os:w'.os=w.os
 tape:w'.tape=w.tape
 output:w'.output=w.output
 size:w.heap.size≤w'.heap.size
 frame:∀b,b<w.heap.size→¬jn lent E0 b→w'.heap[b]? =w.heap[b]?
 ext:∀aw l,E0 aw=some l→E' aw=some l
 fresh:∀q b cap sz,own q=some (.cK b cap sz)→(w.heap.size≤b∨∃p ob cap' sz',get lent p=some ob∧get after p=none∧E0 ob.aw=some (.cK b cap' sz'))∧b<w'.heap.size
 d_:∀q q' b cap sz cap' sz',own q=some (.cK b cap sz)→own q'=some (.cK b cap' sz')→q=q'
 res:qL (rx F Pr E0 lent E' own w') own lent res val
 dO:∀p ob ob' l,get lent p=some ob→get after p=some ob'→E0 p=some l→dy (rx F Pr E0 lent E' own w') {ob with rows:=ob'.rows} l∧
  ∀(i j:Nat) (r:List T) (t:T),ob'.rows[i]? =some r→r[j]? =some t→a7 t
def fp(P:Program)(F:Nat→FuncId)(cf:ay):Prop:=
 ∀f as lent res after,cf f as lent=some (res,after)→j_ P F f=true∧∀Pr E0 vals w,Entry F Pr E0 as lent vals w→
  Calls P (F f) vals w fun e w'=>∃val E' own,e= .returned val∧qN F Pr E0 lent w E' own res after val w'
theorem get_mem{α:Type}:∀{l:List (Nat×α)} {k:Nat} {v:α},get l k=some v→(k,v)∈l
 |[],_,_,h=>by simp[get] at h
 |(k',v')::l,k,v,h=>by
  simp only[get] at h;split at h
  ·rename_i e;cases h;subst e;exact a8 ..
  ·exact aV _ (get_mem h)
theorem gm{α:Type}:∀{l:List (Nat×α)} {k:Nat} {v:α},(l.map (·.1)).Nodup→(k,v)∈l→get l k=some v
 |[],_,_,_,h=>by simp at h
 |(k',v')::l,k,v,hn,h=>by
  simp only[aY,List.nodup_cons] at hn;rcases List.mem_cons.1 h with e|e
  ·cases e;simp[get]
  ·have:k≠k':=fun q=>hn.1 (by subst q;exact kx (f:=(·.1)) e)
   simp only[get,if_neg this];exact gm hn.2 e
theorem dG{α β:Type}{f:α→β}:∀{l:List α},(l.map f).Nodup→∀{x y:α},x∈l→y∈l→f x=f y→x=y
 |[],_,x,_,h,_,_=>by simp at h
 |z::l,hn,x,y,hx,hy,e=>by
  simp only[aY,List.nodup_cons] at hn;rcases List.mem_cons.1 hx with rfl|hx'<;>rcases List.mem_cons.1 hy with rfl|hy'
  ·rfl
  ·exact(hn.1 (by rw[e];exact kx hy')).elim
  ·exact(hn.1 (by rw[←e];exact kx hx')).elim
  ·exact dG hn.2 hx' hy' e
def fV(o:List (Nat×Ob))(l:Nat×Nat×Ob):Prop:=
 ∃b,get o l.2.1=some b∧b.w=true∧l.2.2.aw=l.1∧l.2.2.sz=b.sz∧l.2.2.w=true∧l.2.2.bx=b.bx∧(l.2.2.rows=b.rows∧b.bx=false∨bB (fun r=>bB (cl o) r) b.rows=some l.2.2.rows)
theorem iW{p id:Nat}{v v':V}{ob:Ob}{x:Value}{X:Cx}(h:cW o p v=some (v',id,ob))(hr:bW (cx F Pr E o w) v x)(hE:∀b,get o id=some b→X.E p=E b.aw):
  fV o (p,id,ob)∧bW X v' x:=by
 unfold cW at h;split at h
 ·rename_i id' aw;split at h
  ·rename_i b hg;split at h
   ·rename_i hc;simp only[ab,ah] at h;obtain⟨rows,hm,rfl,rfl,rfl⟩:=h;refine⟨⟨b,hg,hc.2.1,rfl,rfl,hc.2.1,rfl,.inr hm⟩,.c _ _ ?_⟩;cases hr with
    |c _ _ hr=>
     cases hr with
     |ptr _ _ _ _ bk cap sz hE'=>exact .ptr p p 0 0 bk cap sz ((hE b hg).trans (by rw[hc.1];exact hE'))
   ·cases h
  ·cases h
 ·rename_i id' aw len;split at h
  ·rename_i b hg;split at h
   ·rename_i hc;simp only[af,ah] at h;obtain⟨rfl,rfl,rfl⟩:=h;refine⟨⟨b,hg,hc.2.1,rfl,rfl,hc.2.1,rfl,.inl ⟨rfl,hc.2.2.1⟩⟩,.c _ _ ?_⟩;cases hr with
    |c _ _ hr=>
     cases hr with
     |row _ _ _ _ cap sz bk hE' hl ho=>exact .row p p 0 len cap sz bk ((hE b hg).trans (by rw[hc.1];exact hE')) hl ho
     |dE _ _ hE'=>exact .dE p p ((hE b hg).trans (by rw[hc.1];exact hE'))
   ·cases h
  ·cases h
 ·cases h
theorem gv.move{X Y:Cx}{ob ob':Ob}{b cap:Nat}(h:gv X ob b cap)(hh:Y.w.heap[b]? =X.w.heap[b]?)(h1:ob'.rows=ob.rows)(h2:ob'.sz=ob.sz)(hc:ob'.bx=false→∀(i j:Nat) (r:List T) (t:T),ob'.rows[i]? =some r→r[j]? =some t→a7 t)
  (hr:∀(i j:Nat) (r:List T) (t:T) (v:Value),ob.rows[i]? =some r→r[j]? =some t→bN X t v→bN Y t v):gv Y ob' b cap:=by
 obtain⟨hl,hw,hcl,cs,e,fr,g1,g2,g3,g4⟩:=h;refine⟨by rw[h1];exact hl,by rw[h1,h2];exact hw,hc,cs,e,fr,hh.trans g1,by rw[h2];exact g2,g3, ?_⟩;rw[h1,h2];intro i j r t hi ht;obtain⟨v,q1,q2⟩:=g4 i j r t hi ht;exact⟨v,q1,hr i j r t v hi ht q2⟩
theorem oj(R:Rel F Pr w0 lb N E n t o a w){B:List Nat}{X:Cx}(D:Reads F Pr E o w B X){l:Nat×Nat×Ob}(h:fV o l):∃b loc,get o l.2.1=some b∧E b.aw=some loc∧dy X l.2.2 loc:=by
 obtain⟨b,hg,hw,h1,h2,h3,h4,h5⟩:=h;obtain⟨_,loc,hl,hr⟩:=R.dO _ b hg;refine⟨b,loc,hg,hl, ?_⟩;cases loc with
 |nil=>
  refine⟨?_,by rw[h4];exact hr.2⟩;rcases h5 with⟨q,_⟩|q
  ·rw[q];exact hr.1
  ·have hr1:b.rows=[]:=hr.1;rw[hr1] at q;simp[bB] at q;exact q
 |cK bk cap sz=>
  obtain⟨e,hob⟩:=hr;subst e;refine⟨h2.symm, ?_⟩;rcases h5 with⟨q,hbx⟩|q
  ·exact hob.move (by rw[D.hw];rfl) q h2 (fun _=>by rw[q];exact hob.cl hbx) fun i j r t v hi ht hv=>D.move hv (hob.cl hbx i j r t hi ht)
  ·obtain⟨hlen,hwid,hcl,cs,e,fr,g1,g2,g3,g4⟩:=hob;have key:∀(i j:Nat) (r:List T) (t:T),l.2.2.rows[i]? =some r→r[j]? =some t→∃v,cs[i*b.sz+j]? =some v∧bN (cx F Pr E o w) t v∧a7 t:=by
    intro i j r t hi ht;obtain⟨r0,k1,k2⟩:=cD q hi;obtain⟨t0,k3,k4⟩:=cD k2 ht;obtain⟨v,m1,m2⟩:=g4 i j r0 t0 k1 k3;exact⟨v,m1,jh R k4 m2,fA R k4 m2⟩
   refine⟨by rw[bV q];exact hlen, ?_,fun _ i j r t hi ht=>(key i j r t hi ht).choose_spec.2.2,cs,e,fr,by rw[D.hw];exact g1,by rw[h2];exact g2,g3, ?_⟩
   ·intro i r hi;obtain⟨r0,k1,k2⟩:=cD q hi;rw[bV k2,h2];exact hwid i r0 k1
   ·rw[h2];intro i j r t hi ht;obtain⟨v,m1,m2,m3⟩:=key i j r t hi ht;exact⟨v,m1,D.move m2 m3⟩
theorem iX(R:Rel F Pr w0 lb N E n t o a w){B:List Nat}{X:Cx}{lend:List Nat}(D:Reads F Pr E o w B X):∀{ts:List T} {k:Nat} {ts':List T} {ls:List (Nat×Nat×Ob)} {b:List Nat} {vs:List Value},eo o lend k ts=some (ts',ls,b)→
  ts.length=vs.length→(∀(i:Nat) (t:T) (x:Value),ts[i]? =some t→vs[i]? =some x→bN (cx F Pr E o w) t x)→(∀id∈b,id∈B)→(∀l∈ls,∀ob,get o l.2.1=some ob→X.E l.1=E ob.aw)→
  ts'.length=ts.length∧∀(i:Nat) (t:T) (x:Value),ts'[i]? =some t→vs[i]? =some x→bN X t x
 |[],k,ts',ls,b,vs,h,hx,hr,hb,hE=>by
  simp[eo] at h;obtain⟨rfl,rfl,rfl⟩:=h;exact⟨rfl,fun i v x hi=>by simp at hi⟩
 |t::ts,k,ts',ls,b,v::vs,h,hx,hr,hb,hE=>by
  simp only[eo] at h;split at h
  ·cases h
  ·rename_i ts1 ls1 b1 hrest;have hhead:=hr 0 t v (by simp) (by simp);have htail:∀(i:Nat) (t:T) (x:Value),ts[i]? =some t→vs[i]? =some x→bN (cx F Pr E o w) t x:=fun i v x h1 h2=>hr (i+1) v x (by simpa using h1) (by simpa using h2)
   split at h
   ·split at h
    ·rename_i t' id ob hlo;simp only[af,ah] at h;obtain⟨rfl,rfl,rfl⟩:=h;obtain⟨i1,i2⟩:=iX R D hrest (by simpa using hx) htail hb (fun l hl=>hE l (aV _ hl));obtain⟨_,k2⟩:=iW (F:=F) (Pr:=Pr) (w:=w) (X:=X) hlo (.c _ _ hhead) (fun b hb=>hE (k,id,ob) (a8 ..) b hb);refine⟨by simp[i1],fun i u y hu hy=> ?_⟩;cases i with
     |zero=>simp at hu hy;subst hu hy;exact k2.ji
     |succ i=>exact i2 i u y (by simpa using hu) (by simpa using hy)
    ·cases h
   ·split at h
    ·rename_i t' ht';simp only[af,ah] at h;obtain⟨rfl,rfl,rfl⟩:=h;obtain⟨i1,i2⟩:=iX R D hrest (by simpa using hx) htail (fun id hid=>hb id (List.mem_append_right _ hid)) hE;refine⟨by simp[i1],fun i u y hu hy=> ?_⟩;cases i with
     |zero=>simp at hu hy;subst hu hy;exact ke R D ht' (fun id hid=>hb id (List.mem_append_left _ hid)) hhead
     |succ i=>exact i2 i u y (by simpa using hu) (by simpa using hy)
    ·cases h
 |_::_,_,_,_,_,[],_,hx,_,_,_=>by simp at hx
theorem iz(R:Rel F Pr w0 lb N E n t o a w){B:List Nat}{X:Cx}{lend:List Nat}(D:Reads F Pr E o w B X):∀{vals:List V} {p:Nat} {as:List V} {ls:List (Nat×Nat×Ob)} {b:List Nat} {xs:List Value},args o lend p vals=some (as,ls,b)→
  vals.length=xs.length→(∀(i:Nat) (v:V) (x:Value),vals[i]? =some v→xs[i]? =some x→bW (cx F Pr E o w) v x)→(∀id∈b,id∈B)→(∀l∈ls,∀ob,get o l.2.1=some ob→X.E l.1=E ob.aw)→
  as.length=vals.length∧(∀(i:Nat) (v:V) (x:Value),as[i]? =some v→xs[i]? =some x→bW X v x)
 |[],p,as,ls,b,xs,h,hx,hr,hb,hE=>by
  simp[args] at h;obtain⟨rfl,rfl,rfl⟩:=h;exact⟨rfl,fun i v x hi=>by simp at hi⟩
 |v::vals,p,as,ls,b,x::xs,h,hx,hr,hb,hE=>by
  simp only[args] at h;split at h
  ·cases h
  ·rename_i as' ls' b' hrest;have hhead:=hr 0 v x (by simp) (by simp);have htail:∀(i:Nat) (v:V) (x:Value),vals[i]? =some v→xs[i]? =some x→bW (cx F Pr E o w) v x:=fun i v x h1 h2=>hr (i+1) v x (by simpa using h1) (by simpa using h2)
   split at h
   ·split at h
    ·rename_i v' id ob hlo;simp only[af,ah] at h;obtain⟨rfl,rfl,rfl⟩:=h;obtain⟨i1,i2⟩:=iz R D hrest (by simpa using hx) htail hb (fun l hl=>hE l (aV _ hl));obtain⟨k1,k2⟩:=iW (F:=F) (Pr:=Pr) (w:=w) (X:=X) hlo hhead (fun b hb=>hE (p,id,ob) (a8 ..) b hb);refine⟨by simp[i1], ?_⟩;intro i u y hu hy;cases i with
     |zero=>simp at hu hy;subst hu hy;exact k2
     |succ i=>exact i2 i u y (by simpa using hu) (by simpa using hy)
    ·cases h
   ·split at h
    ·split at h
     ·rename_i ts;split at h
      ·split at h
       ·rename_i ts' ls1 b1 hcells;simp only[af,ah] at h;obtain⟨rfl,rfl,rfl⟩:=h;obtain⟨i1,i2⟩:=iz R D hrest (by simpa using hx) htail (fun id hid=>hb id (List.mem_append_right _ hid)) (fun l hl=>hE l (List.mem_append_right _ hl));refine⟨by simp[i1], ?_⟩;intro i u y hu hy;cases i with
        |zero=>
         simp at hu hy;subst hu hy;cases hhead with
         |a _ cs hn hrr=>
          obtain⟨q1,q2⟩:=iX R D hcells (vs:=cs.toList) (by simpa using hn) (fun i t x h1 h2=>hrr i t x h1 (by simpa using h2)) (fun id hid=>hb id (List.mem_append_left _ hid)) (fun l hl=>hE l (List.mem_append_left _ hl));exact .a _ _ (by rw[q1,hn]) fun i t v ht hv=>q2 i t v ht (by simpa using hv)
        |succ i=>exact i2 i u y (by simpa using hu) (by simpa using hy)
       ·cases h
      ·cases h
     ·cases h
    ·split at h
     ·rename_i v' hv';simp only[af,ah] at h;obtain⟨rfl,rfl,rfl⟩:=h;obtain⟨i1,i2⟩:=iz R D hrest (by simpa using hx) htail (fun id hid=>hb id (List.mem_append_right _ hid)) hE;refine⟨by simp[i1], ?_⟩;intro i u y hu hy;cases i with
      |zero=>simp at hu hy;subst hu hy;exact ot R D hv' (fun id hid=>hb id (List.mem_append_left _ hid)) hhead
      |succ i=>exact i2 i u y (by simpa using hu) (by simpa using hy)
     ·cases h
 |_::_,_,_,_,_,[],_,hx,_,_,_=>by simp at hx
end Mx
