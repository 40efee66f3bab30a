/-
  A small machine over trees stands to the machine of the model as said; what Go functions of this part compute there.
-/
import GoSem.Core.Code
import GoSem.Op.IntArith
import Derived.Tactics
import Derived.Laws.Cells
import Derived.Laws.World
import Derived.Laws.Append
import Derived.Laws.Tables
import Derived.Laws.MakeOwn
import Derived.Laws.BytesString
import Derived.Laws.AppendOwn
import Derived.Below
import Derived.Laws.StructEq
set_option maxHeartbeats 16000000
set_option linter.unusedSimpArgs false
set_option linter.unusedVariables false
namespace Mx
theorem aa:type_of% @List.range_succ:=@List.range_succ
theorem ab:type_of% @List.take_of_length_le:=@List.take_of_length_le
theorem aj:type_of% @Bool.and_eq_true:=@Bool.and_eq_true
theorem al:type_of% @Option.map_eq_some_iff:=@Option.map_eq_some_iff
theorem ax:type_of% @List.getElem_mem:=@List.getElem_mem
theorem aB:type_of% @Bool.false_eq_true:=@Bool.false_eq_true
theorem aD:type_of% @List.length_append:=@List.length_append
theorem aE:type_of% @Prod.exists:=@Prod.exists
theorem aH:type_of% @Option.some.injEq:=@Option.some.injEq
theorem aR:type_of% @Prod.mk.injEq:=@Prod.mk.injEq
theorem aY:type_of% @List.eq_nil_of_length_eq_zero:=@List.eq_nil_of_length_eq_zero
theorem bl:type_of% @List.mem_cons_self:=@List.mem_cons_self
theorem bo:type_of% @List.mem_cons_of_mem:=@List.mem_cons_of_mem
theorem bu:type_of% @List.map_cons:=@List.map_cons
theorem bA:type_of% @List.drop_eq_getElem_cons:=@List.drop_eq_getElem_cons
theorem bG:type_of% @List.length_filter_le:=@List.length_filter_le
theorem bM:type_of% @List.length_singleton:=@List.length_singleton
theorem bQ:type_of% @List.getElem_of_mem:=@List.getElem_of_mem
theorem bS:type_of% @List.map_nil:=@List.map_nil
theorem bV:type_of% @List.length_cons:=@List.length_cons
theorem b4:type_of% @List.append_assoc:=@List.append_assoc
theorem b8:type_of% @List.getElem?_take:=@List.getElem?_take
theorem cg:type_of% @List.map_append:=@List.map_append
theorem ch:type_of% @Option.isNone_iff_eq_none:=@Option.isNone_iff_eq_none
theorem cj:type_of% @List.flatMap_cons:=@List.flatMap_cons
theorem cn:type_of% @Nat.mul_le_mul_right:=@Nat.mul_le_mul_right
theorem cw:type_of% @List.getElem?_eq_getElem:=@List.getElem?_eq_getElem
theorem cR:type_of% @List.append_nil:=@List.append_nil
theorem da:type_of% @List.take_append_drop:=@List.take_append_drop
theorem dv:type_of% @Array.getD_eq_getD_getElem?:=@Array.getD_eq_getD_getElem?
theorem dy:type_of% @List.length_nil:=@List.length_nil
theorem dB:type_of% @List.getElem?_append:=@List.getElem?_append
theorem dY:type_of% @List.drop_eq_nil_of_le:=@List.drop_eq_nil_of_le
theorem eM:type_of% @List.length_map:=@List.length_map
theorem eN:type_of% @List.foldl_cons:=@List.foldl_cons
theorem fB:type_of% @Int.toNat_natCast:=@Int.toNat_natCast
theorem fJ:type_of% @List.getElem_map:=@List.getElem_map
theorem fK:type_of% @List.getElem?_drop:=@List.getElem?_drop
theorem fL:type_of% @List.all_eq_true:=@List.all_eq_true
theorem fO:type_of% @List.mem_filter:=@List.mem_filter
theorem fT:type_of% @Bool.or_eq_false_iff:=@Bool.or_eq_false_iff
theorem gd:type_of% @List.length_take:=@List.length_take
theorem gJ:type_of% @Int.eq_ofNat_of_zero_le:=@Int.eq_ofNat_of_zero_le
theorem iD:type_of% @List.mem_map_of_mem:=@List.mem_map_of_mem
theorem iE:type_of% @List.map_set:=@List.map_set
theorem iF:type_of% @Option.map_some:=@Option.map_some
theorem iG:type_of% @List.mem_append:=@List.mem_append
theorem iI:type_of% @List.filter_cons:=@List.filter_cons
theorem iM:type_of% @List.getElem?_map:=@List.getElem?_map
theorem iV:type_of% @List.mem_singleton:=@List.mem_singleton
theorem jl:type_of% @List.mem_flatMap:=@List.mem_flatMap
theorem jn:type_of% @List.getElem?_eq_none:=@List.getElem?_eq_none
theorem jI:type_of% @List.mem_of_getElem?:=@List.mem_of_getElem?
theorem jJ:type_of% @Int.cast_ofNat_Int:=@Int.cast_ofNat_Int
theorem jU:type_of% @Option.getD_some:=@Option.getD_some
theorem ox:type_of% @List.mem_map:=@List.mem_map
theorem uo:type_of% @List.mem_cons:=@List.mem_cons
end Mx
namespace Mx
open Go (IntKind BinOp)
inductive T where
 |int (k:IntKind) (n:Int)
 |bool (b:Bool)
 |str (s:ByteArray)
 |aL (sz:Nat)
 |sl (own:Bool) (sz:Nat) (rows:List (List T))
 |row (id ct off len:Nat)
 |ptr (id ct i j:Nat)
 |vp (cells:List T) (j:Nat)
 |fn (f:Nat) (caps:List T)
 deriving Inhabited
inductive V where
 |c (t:T)
 |a (ts:List T)
 |lM (vs:List V)
 |undef
 deriving Inhabited
structure Ob where
 ct:Nat
 sz:Nat
 w:Bool
 bx:Bool
 rows:List (List T)
def get{α:Type}:List (Nat×α)→Nat→Option α
 |[],_=>none
 |(k,v)::l,x=>if x=k then some v else get l x
def keep{α:Type}(ks:List Nat)(l:List (Nat×α)):List (Nat×α):=ks.filterMap fun k=>(get l k).map fun v=>(k,v)
def h_{α β:Type}(f:α→Option β):List α→Option (List β)
 |[]=>some []
 |x::xs=>match f x,h_ f xs with|some y,some ys=>some (y::ys)|_,_=>none
structure St where
 t:List (Nat×V)
 o:List (Nat×Ob)
 n:Nat
inductive O where
 |t (n:Nat)
 |k (v:T)
 |fn (f:Nat)
 deriving Inhabited
inductive Kc where
 |int
 |bool
 |str
 deriving DecidableEq,Inhabited
inductive MO where
 |mv (x:O)
 |np
 |nil (sz:Nat)
 |pick (c a b:O)
 |alloc (zero:List T)
 |box (x:O)
 |build (zero:List T) (parts:List (Nat×Nat×O))
 |bF (sz len:Nat) (zero:List T) (parts:List (Nat×O))
 |A3 (sz len:Nat) (zero:List T) (parts:List (Nat×O))
 |load (agg:Bool) (n:Nat) (a:O)
 |store (n:Nat) (a x:O)
 |beq (neg:Bool) (x y:O)
 |bin (op:BinOp) (x y:O)
 |eqs (neg:Bool) (ks:List Kc) (x y:O)
 |not (x:O)
 |neg (x:O)
 |ry (k:IntKind) (x:O)
 |EI (x:O)
 |EE (sz bytes:Nat) (zero:List T) (x:O)
 |KI (sz bytes:Nat) (zero:List T) (x y:O)
 |oB (x:O) (lo hi:Option O)
 |wL (sz:Nat) (x:O) (lo hi mx:Option O)
 |bN (off:Nat) (a:O)
 |kG (sz:Nat) (x ix:O)
 |idx (x ix:O)
 |Ir (agg:Bool) (off n:Nat) (x:O)
 |ext (i:Nat) (x:O)
 |len (x:O)
 |ky (x:O)
 |app (sz bytes:Nat) (x y:O)
 |yk (sz bytes:Nat) (x y:O)
 |yc (sz:Nat) (x:O) (lo hi:Option O)
 |EH (zero:List T) (x:O)
 |max (x y:O)
 |min (x y:O)
 |call (f:Nat) (args:List O) (lend:List Nat) (thaw:List (Nat×Nat))
 |oO (f:O) (args:List O)
 |tL (f:Nat) (caps:List O)
 |lq (x:O)
 deriving Inhabited
structure og where
 dst:Option Nat
 op:MO
 guard:Option (Nat×Bool):=none
 deriving Inhabited
abbrev kI(n:Int):O:= .k (.int .i64 n)
abbrev kB(b:Bool):O:= .k (.bool b)
abbrev lr(n:Nat):List Nat:=List.range n
abbrev Q(d:Nat)(x:MO):og:=⟨some d,x,none⟩
abbrev Qn(x:MO):og:=⟨none,x,none⟩
abbrev Qg(d:Nat)(x:MO)(g:Nat)(b:Bool):og:=⟨some d,x,some (g,b)⟩
abbrev Qm(d x:Nat):og:=⟨some d,.mv (.t x),none⟩
abbrev Qf(d k x:Nat):og:=⟨some d,.bN k (.t x),none⟩
abbrev Ql(d x:Nat):og:=⟨some d,.load false 1 (.t x),none⟩
abbrev QL(d k x:Nat):og:=⟨some d,.load true k (.t x),none⟩
abbrev Qs(k a x:Nat):og:=⟨none,.store k (.t a) (.t x),none⟩
abbrev Qb(d:Nat)(b:Bool):og:=⟨some d,.mv (.k (.bool b)),none⟩
abbrev Qi(d:Nat)(n:Int):og:=⟨some d,.mv (.k (.int .i64 n)),none⟩
abbrev Qx(d i x:Nat):og:=⟨some d,.ext i (.t x),none⟩
abbrev Qa(d k x i:Nat):og:=⟨some d,.kG k (.t x) (.t i),none⟩
abbrev Qv(d x:Nat):og:=⟨some d,.box (.t x),none⟩
inductive C where
 |skip
 |ai (ops:List og) (kt ko:List Nat)
 |gV (ops:List og) (anc:List (List Nat)) (kt ko:List Nat)
 |seq (a b:C)
 |cond (c:O) (a b:C)
 |block (id:Nat) (a:C)
 |loop (a:C)
 |exit (id:Nat)
 |ret
 |shut (ids:List Nat) (a:C)
 deriving Inhabited
inductive R where
 |tmp (t:Nat)
 |cell (t:Nat) (agg:Bool) (n:Nat)
structure Fn where
 np:Nat
 body:C
 res:List R
def T.scalar:T→Bool
 | .int .. =>true
 | .bool _=>true
 | .str _=>true
 |_=>false
def wr(o:List (Nat×Ob)):T→List Nat
 | .row id _ _ _=>match get o id with|some b=>if b.w then [id] else []|none=>[]
 | .ptr id _ _ _=>match get o id with|some b=>if b.w then [id] else []|none=>[]
 | .fn _ caps=>caps.flatMap fun
   | .ptr id _ _ _=>match get o id with|some b=>if b.w then [id] else []|none=>[]
   |_=>[]
 |_=>[]
def sV(o:List (Nat×Ob)):T→Option T
 | .int k n=>some (.int k n)
 | .bool b=>some (.bool b)
 | .str s=>some (.str s)
 | .aL sz=>some (.sl false sz [])
 | .sl _ sz rows=>some (.sl false sz rows)
 | .row id ct off len=>
   match get o id with
   |some b=>if b.ct=ct∧b.bx=false∧off+len≤b.rows.length then some (.sl false b.sz ((b.rows.drop off).take len)) else none
   |none=>none
 | .vp cells j=>some (.vp cells j)
 |_=>none
def Dw(o:List (Nat×Ob)):T→List Nat
 | .ptr id ct i j=>(match get o id with|some b=>(match b.rows[i]? with|some r=>r.flatMap (wr o)|none=>[])|none=>[])++wr o (.ptr id ct i j)
 |t=>wr o t
def FR(o:List (Nat×Ob)):T→Option T
 | .ptr id ct i j=>
   match get o id with
   |some b=>if b.ct=ct then(match b.rows[i]? with|some r=>(h_ (sV o) r).map fun cells=> .vp cells j|none=>none) else none
   |none=>none
 |t=>sV o t
def im(o:List (Nat×Ob)):T→Option T
 | .fn f caps=>(h_ (FR o) caps).map fun cs=> .fn f cs
 |t=>FR o t
def Bq(o:List (Nat×Ob)):T→List Nat
 | .fn _ caps=>caps.flatMap (Dw o)
 |t=>Dw o t
def cl(o:List (Nat×Ob))(t:T):Option T:=match t with
 | .ptr .. =>none
 | .vp .. =>none
 | .fn .. =>none
 |t=>if(wr o t).isEmpty then sV o t else none
def V.cells:V→Option (List T)
 | .c t=>some [t]
 | .a ts=>some ts
 |_=>none
def V.im(o:List (Nat×Ob)):V→Option V
 | .c t=>(Mx.im o t).map .c
 | .a ts=>(h_ (Mx.im o) ts).map .a
 |_=>none
def V.wr(o:List (Nat×Ob)):V→List Nat
 | .c t=>Bq o t
 | .a ts=>ts.flatMap (Bq o)
 |_=>[]
def look(t:List (Nat×V)):O→Option V
 | .t n=>get t n
 | .k v=>some (.c v)
 | .fn f=>some (.c (.fn f []))
def jL(t:List (Nat×V))(x:O):Option T:=match look t x with|some (.c v)=>some v|_=>none
def vt(t:List (Nat×V))(x:O):Option (IntKind×Int):=match look t x with|some (.c (.int k n))=>some (k,n)|_=>none
def qa(t:List (Nat×V))(x:O):Option Bool:=match look t x with|some (.c (.bool b))=>some b|_=>none
def pn(t:List (Nat×V))(x:O):Option Nat:=match look t x with|some (.c (.int _ n))=>if 0≤n then some n.toNat else none|_=>none
def w7(t:List (Nat×V))(x:O):Option (List T):=match look t x with|some (.a ts)=>some ts|_=>none
def qb(t:List (Nat×V))(x:O):Option (List T):=match look t x with|some v=>v.cells|none=>none
def vY(k:IntKind)(x y:Int):Int:=k.wrap (BitVec.ofInt k.bits x&&&BitVec.ofInt k.bits y).toNat
def EC(k:IntKind)(x y:Int):Int:=k.wrap (BitVec.ofInt k.bits x|||BitVec.ofInt k.bits y).toNat
def Bv(k:IntKind)(x y:Int):Int:=k.wrap (BitVec.ofInt k.bits x^^^BitVec.ofInt k.bits y).toNat
def B8(op:BinOp)(k:IntKind)(x y:Int):Option T:=
 match op with
 | .add=>some (.int k (k.wrap (x+y)))
 | .sub=>some (.int k (k.wrap (x-y)))
 | .mul=>some (.int k (k.wrap (x*y)))
 | .quo=>if y=0 then none else some (.int k (k.wrap (x.tdiv y)))
 | .rem=>if y=0 then none else some (.int k (x.tmod y))
 | .and=>some (.int k (vY k x y))
 | .or=>some (.int k (EC k x y))
 | .xor=>some (.int k (Bv k x y))
 | .eql=>some (.bool (decide (x=y)))
 | .neq=>some (.bool (!decide (x=y)))
 | .lss=>some (.bool (decide (x<y)))
 | .leq=>some (.bool (decide (x≤y)))
 | .gtr=>some (.bool (decide (x>y)))
 | .geq=>some (.bool (decide (x≥y)))
 |_=>none
def nA(op:BinOp)(k:IntKind)(x y:Int):Option T:=
 if y<0 then none else
 match op with
 | .shl=>some (.int k (k.wrap (x*((2^(Min.min y.toNat k.bits):Nat):Int))))
 | .shr=>some (.int k (x.fdiv ((2^(Min.min y.toNat k.bits):Nat):Int)))
 |_=>none
def jH:List UInt8→List UInt8→Bool
 |_,[]=>false
 |[],_::_=>true
 |a::x,b::y=>a<b||(a==b&&jH x y)
def kM(op:BinOp)(x y:ByteArray):Option T:=
 match op with
 | .add=>if x.size+y.size≤4611686018427387904 then some (.str (x++y)) else none
 | .eql=>some (.bool (x.toList==y.toList))
 | .neq=>some (.bool !(x.toList==y.toList))
 | .lss=>some (.bool (jH x.toList y.toList))
 | .leq=>some (.bool (jH x.toList y.toList||x.toList==y.toList))
 | .gtr=>some (.bool !(jH x.toList y.toList||x.toList==y.toList))
 | .geq=>some (.bool !(jH x.toList y.toList))
 |_=>none
def wb:BinOp→Bool
 | .shl=>true
 | .shr=>true
 |_=>false
def bin(op:BinOp)(x y:T):Option T:=
 match x,y with
 | .int k a,.int k' b=>if wb op then nA op k a b else if k=k' then B8 op k a b else none
 | .str a,.str b=>kM op a b
 |_,_=>none
def KR:Kc→T→T→Option Bool
 | .int,.int k a,.int k' b=>if k=k' then some (decide (a=b)) else none
 | .str,.str a,.str b=>some (decide (a.toList=b.toList))
 | .bool,.bool a,.bool b=>some (a==b)
 |_,_,_=>none
def yW:List Kc→List T→List T→Option Bool
 |[],[],[]=>some true
 |k::ks,x::xs,y::ys=>match KR k x y with|some b=>(match yW ks xs ys with|some c=>some (b&&c)|none=>none)|none=>none
 |_,_,_=>none
def max2:T→T→Option T
 | .int k x,.int k' y=>if k=k' then some (.int k (if y>x then y else x)) else none
 | .str x,.str y=>some (.str (if jH x.toList y.toList then y else x))
 |_,_=>none
def min2:T→T→Option T
 | .int k x,.int k' y=>if k=k' then some (.int k (if y<x then y else x)) else none
 |_,_=>none
def my(s:ByteArray):List (List T):=s.data.toList.map fun b=>[T.int .u8 b.toNat]
def mZ(rows:List (List T)):Option (List UInt8):=h_ (fun (r:List T)=>match r with
 |[.int .u8 n]=>some (UInt8.ofNat n.toNat)
 |_=>none) rows
def rowsOf(o:List (Nat×Ob)):T→Option (List (List T))
 | .aL _=>some []
 | .sl _ _ rows=>some rows
 | .row id ct off len=>
   match get o id with
   |some b=>if b.ct=ct∧b.bx=false∧off+len≤b.rows.length then some ((b.rows.drop off).take len) else none
   |none=>none
 |_=>none
def tz(o:List (Nat×Ob)):T→Option Nat
 | .sl _ sz _=>some sz
 | .row id _ _ _=>(get o id).map (·.sz)
 | .aL sz=>some sz
 |_=>none
def vf(o:List (Nat×Ob))(sz:Nat):T→Option (List (List T))
 | .str s=>if sz=1 then some (my s) else none
 |y=>match rowsOf o y with
  |some ys=>if ys.isEmpty=true∨tz o y=some sz then some ys else none
  |none=>none
def lenOf:T→Option Nat
 | .aL _=>some 0
 | .sl _ _ rows=>some rows.length
 | .row _ _ _ len=>some len
 |_=>none
def place(o:List (Nat×Ob)):T→Option (List T×Nat)
 | .ptr id ct i j=>
   match get o id with
   |some b=>if b.ct=ct then(match b.rows[i]? with|some r=>some (r,j)|none=>none) else none
   |none=>none
 | .vp cells j=>some (cells,j)
 |_=>none
def setAt(r:List T)(j:Nat)(xs:List T):List T:=r.take j++xs++r.drop (j+xs.length)
def wO:List (Nat×List T)→List T→List T
 |[],r=>r
 |(j,xs)::l,r=>wO l (setAt r j xs)
abbrev cI:=Nat→List V→List (Nat×Ob)→Option (V×List (Nat×Ob))
abbrev G1:=Option (V×List (Nat×Ob))
def nF(o:List (Nat×Ob))(p:Nat):V→Option (V×Nat×Ob)
 | .c (.ptr id ct 0 0)=>
   match get o id with
   |some b=>if b.ct=ct∧b.w=true∧b.bx=true then(h_ (fun r=>h_ (cl o) r) b.rows).map fun rows=>(.c (.ptr p p 0 0),id,{b with ct:=p,rows:=rows}) else none
   |none=>none
 | .c (.row id ct 0 len)=>
   match get o id with
   |some b=>if b.ct=ct∧b.w=true∧b.bx=false∧len≤b.rows.length then some (.c (.row p p 0 len),id,{b with ct:=p}) else none
   |none=>none
 |_=>none
def qj:T→Bool
 | .int .. =>true
 | .bool _=>true
 | .str _=>true
 | .sl true _ rows=>rows.all fun r=>r.all T.scalar
 | .row .. =>true
 |_=>false
def V.flat:V→Bool
 | .c t=>qj t
 | .a ts=>ts.all qj
 | .lM vs=>vs.all fun| .c t=>qj t| .a ts=>ts.all qj|_=>false
 | .undef=>false
def oP(n:Nat)(lent:List (Nat×Nat×Nat))(thaw:List (Nat×Nat))(q:Nat):T→Option (T×List (Nat×Ob))
 | .int k x=>some (.int k x,[])
 | .bool b=>some (.bool b,[])
 | .str s=>some (.str s,[])
 | .sl own sz rows=>
   match get thaw q with
   |some id=>if own then some (.row id (n+q) 0 rows.length,[(id,{ct:=n+q,sz:=sz,w:=true,bx:=false,rows:=rows})]) else none
   |none=>some (.sl false sz rows,[])
 | .row p _ off len=>match get lent p with|some (id,ct)=>some (.row id ct off len,[])|none=>none
 | .vp cells _=>
   match get thaw q with
   |some id=>some (.ptr id (n+q) 0 0,[(id,{ct:=n+q,sz:=cells.length,w:=true,bx:=true,rows:=[cells]})])
   |none=>none
 |_=>none
def rZ(n:Nat)(lent:List (Nat×Nat×Nat))(thaw:List (Nat×Nat)):Nat→List T→Option (List T×List (Nat×Ob))
 |_,[]=>some ([],[])
 |q,t::ts=>
  match oP n lent thaw q t with
  |some (t',gf)=>(match rZ n lent thaw (q+1) ts with|some (ts',ups')=>some (t'::ts',gf++ups')|none=>none)
  |none=>none
def pQ(n:Nat)(lent:List (Nat×Nat×Nat))(thaw:List (Nat×Nat))(q:Nat):V→Option (V×List (Nat×Ob)×Nat)
 | .c t=>match oP n lent thaw q t with|some (t',gf)=>some (.c t',gf,q+1)|none=>none
 | .a ts=>match rZ n lent thaw q ts with|some (ts',gf)=>some (.a ts',gf,q+ts.length)|none=>none
 |_=>none
def q0(n:Nat)(lent:List (Nat×Nat×Nat))(thaw:List (Nat×Nat)):Nat→List V→Option (List V×List (Nat×Ob))
 |_,[]=>some ([],[])
 |q,v::vs=>
  match pQ n lent thaw q v with
  |some (v',gf,q')=>(match q0 n lent thaw q' vs with|some (vs',ups')=>some (v'::vs',gf++ups')|none=>none)
  |none=>none
def back(n:Nat)(lent:List (Nat×Nat×Nat))(thaw:List (Nat×Nat)):V→Option (V×List (Nat×Ob))
 | .lM vs=>(q0 n lent thaw 0 vs).map fun r=>(.lM r.1,r.2)
 |v=>(pQ n lent thaw 0 v).map fun r=>(r.1,r.2.1)
def qd(o:List (Nat×Ob))(lend:List Nat):Nat→List T→Option (List T×List (Nat×Nat×Ob)×List Nat)
 |_,[]=>some ([],[],[])
 |k,t::ts=>
  match qd o lend (k+1) ts with
  |none=>none
  |some (ts',ls,b)=>
   if k∈lend then(match nF o k (.c t) with|some (.c t',id,ob)=>some (t'::ts',(k,id,ob)::ls,b)|_=>none)
   else(match im o t with|some t'=>some (t'::ts',ls,Bq o t++b)|none=>none)
def om(np id:Nat):Bool:=decide (id<np)||decide (1000000≤id)
def uF(lend:List Nat)(p:Nat):Bool:=lend.any fun k=>decide (1000000+64*p≤k)&&decide (k<1000000+64*(p+1))
def args(o:List (Nat×Ob))(lend:List Nat):Nat→List V→Option (List V×List (Nat×Nat×Ob)×List Nat)
 |_,[]=>some ([],[],[])
 |p,v::vs=>
  match args o lend (p+1) vs with
  |none=>none
  |some (as,ls,b)=>
   if p∈lend then(match nF o p v with|some (v',id,ob)=>some (v'::as,(p,id,ob)::ls,b)|none=>none)
   else if uF lend p then(match v with
    | .a ts=>if ts.length≤64 then(match qd o lend (1000000+64*p) ts with|some (ts',ls',b')=>some (.a ts'::as,ls'++ls,b'++b)|none=>none) else none
    |_=>none)
   else(match v.im o with|some v'=>some (v'::as,ls,v.wr o++b)|none=>none)
def q9(n:Nat)(b:Ob):Option Ob→Ob
 |some b'=>{b with rows:=b'.rows}
 |none=>{ct:=n+15,sz:=b.sz,w:=true,bx:=false,rows:=[]}
def lg(n:Nat)(o:List (Nat×Ob))(after:List (Nat×Ob)):List (Nat×Nat×Ob)→Option (List (Nat×Ob))
 |[]=>some []
 |(p,id,_)::ls=>
  match get o id,lg n o after ls with
  |some b,some l=>some ((id,q9 n b (get after p))::l)
  |_,_=>none
def gh(cf:cI)(n:Nat)(o:List (Nat×Ob))(f:Nat)(vals:List V)(lend:List Nat)(thaw:List (Nat×Nat)):G1:=
 match args o lend 0 vals with
 |none=>none
 |some (as,ls,b)=>
  if vals.length≤1000∧(ls.map (·.2.1)).all (fun id=> !b.contains id)∧(ls.map (·.2.1)).Nodup then
   match cf f as (ls.map fun l=>(l.1,l.2.2)) with
   |none=>none
   |some (res,after)=>
    match lg n o after ls,back n (ls.map fun l=>(l.1,l.2.1,(get o l.2.1).elim 0 (·.ct))) thaw res with
    |some gf,some (v,ups')=>if b.isEmpty∨(res.flat∧gf.all fun u=>u.2.rows.all (·.all T.scalar)) then some (v,gf++ups') else none
    |_,_=>none
  else none
def vV(t:List (Nat×V))(d:Nat):Option O→Option Nat
 |none=>some d
 |some x=>pn t x
def act(cf:cI)(n d:Nat)(t:List (Nat×V))(o:List (Nat×Ob)):MO→G1
 | .mv x=>(look t x).map fun v=>(v,[])
 | .np=>some (.undef,[])
 | .nil sz=>some (.c (.row d n 0 0),[(d,{ct:=n,sz:=sz,w:=true,bx:=false,rows:=[]})])
 | .pick c a b=>match qa t c with|some c=>(look t (if c then a else b)).map fun v=>(v,[])|none=>none
 | .alloc zero=>some (.c (.ptr d n 0 0),[(d,{ct:=n,sz:=zero.length,w:=true,bx:=true,rows:=[zero]})])
 | .box x=>(qb t x).map fun cs=>(.c (.ptr d n 0 0),[(d,{ct:=n,sz:=cs.length,w:=true,bx:=true,rows:=[cs]})])
 | .build zero parts=>
   (h_ (fun (p:Nat×Nat×O)=>match qb t p.2.2 with|some cs=>if cs.length=p.2.1∧p.1+p.2.1≤zero.length then some (p.1,cs) else none|none=>none) parts).map fun ps=>(.a (wO ps zero),[])
 | .bF sz len zero parts=>
   (h_ (fun (p:Nat×O)=>match qb t p.2 with|some cs=>if cs.length=sz∧p.1<len then(h_ (cl o) cs).map fun cs=>(p.1,cs) else none|none=>none) parts).map fun ps=>
   (.c (.row d n 0 len),[(d,{ct:=n,sz:=sz,w:=true,bx:=false,rows:=ps.foldl (fun rs p=>rs.set p.1 p.2) (List.replicate len zero)})])
 | .A3 sz len zero parts=>
   (h_ (fun (p:Nat×O)=>match qb t p.2 with|some cs=>if cs.length=sz∧p.1<len then(h_ (cl o) cs).map fun cs=>(p.1,cs) else none|none=>none) parts).map fun ps=>
   (.c (.row d n 0 len),[(d,{ct:=n,sz:=sz,w:=false,bx:=false,rows:=ps.foldl (fun rs p=>rs.set p.1 p.2) (List.replicate len zero)})])
 | .load agg k a=>
   match jL t a with
   |none=>none
   |some a=>
    match place o a with
    |none=>none
    |some (r,j)=>
     if agg then(if j+k≤r.length then some (.a ((r.drop j).take k),[]) else none)
     else(r[j]?).map fun c=>(.c c,[])
 | .store k a x=>
   match jL t a,qb t x with
   |some (.ptr id ct i j),some cs=>
    match get o id with
    |some b=>
     if b.ct=ct∧b.w=true∧cs.length=k then
     match b.rows[i]?,(if b.bx then some cs else h_ (cl o) cs) with
     |some r,some cs=>if j+cs.length≤r.length then some (.undef,[(id,{b with rows:=b.rows.set i (setAt r j cs)})]) else none
     |_,_=>none
     else none
    |none=>none
   |_,_=>none
 | .bin op x y=>match jL t x,jL t y with|some x,some y=>(bin op x y).map fun v=>(.c v,[])|_,_=>none
 | .eqs neg ks x y=>match w7 t x,w7 t y with|some x,some y=>(yW ks x y).map fun b=>(.c (.bool (if neg then !b else b)),[])|_,_=>none
 | .beq neg x y=>match qa t x,qa t y with|some x,some y=>some (.c (.bool (if neg then !(x==y) else x==y)),[])|_,_=>none
 | .not x=>(qa t x).map fun b=>(.c (.bool !b),[])
 | .neg x=>(vt t x).map fun k=>(.c (.int k.1 (k.1.wrap (0-k.2))),[])
 | .ry k x=>(vt t x).map fun m=>(.c (.int k (k.wrap m.2)),[])
 | .EI x=>match jL t x with|some x=>(match rowsOf o x with|some rows=>if rows.isEmpty∨tz o x=some 1 then(mZ rows).map fun bs=>(.c (.str ⟨bs.toArray⟩),[]) else none|none=>none)|none=>none
 | .EE sz bytes zero x=>match pn t x with
   |some l=>if l≤4294967296∧bytes*l≤140737488355328 then some (.c (.row d n 0 l),[(d,{ct:=n,sz:=sz,w:=true,bx:=false,rows:=List.replicate l zero})]) else none
   |none=>none
 | .KI sz bytes zero x y=>match pn t x,pn t y with
   |some l,some m=>if l≤m∧m≤4294967296∧bytes*m≤140737488355328 then some (.c (.row d n 0 l),[(d,{ct:=n,sz:=sz,w:=true,bx:=false,rows:=List.replicate l zero})]) else none
   |_,_=>none
 | .oB x lo hi=>
   match jL t x with
   |some (.str s)=>(match vV t 0 lo,vV t s.size hi with
    |some l,some h=>if l≤h∧h≤s.size then some (.c (.str (s.extract l h)),[]) else none
    |_,_=>none)
   |_=>none
 | .wL size x lo hi mx=>
   match jL t x with
   |some x=>
    (match lenOf x with
    |some len=>
     (match vV t 0 lo,vV t len hi,vV t len mx with
     |some l,some h,some m=>
      if l≤h∧h≤m∧m≤len then
      if mx.isSome then some (.undef,[]) else
      (match x with
      | .aL sz=>some (.c (.aL sz),[])
      | .sl _ sz rows=>if sz=size then some (.c (.sl false sz ((rows.drop l).take (h-l))),[]) else none
      | .row id ct off _=>match get o id with
        |some b=>if b.ct=ct∧b.bx=false∧b.sz=size then(if l=h∧off+l≠0 then some (.c (.sl false b.sz []),[]) else some (.c (.row id ct (off+l) (h-l)),[])) else none
        |none=>none
      |_=>none)
      else none
     |_,_,_=>none)
    |none=>none)
   |none=>none
 | .bN off a=>
   match jL t a with
   |some (.ptr id ct i j)=>some (.c (.ptr id ct i (j+off)),[])
   |some (.vp cells j)=>some (.c (.vp cells (j+off)),[])
   |_=>none
 | .kG sz x ix=>
   match jL t x,pn t ix with
   |some (.row id ct off len),some i=>(match get o id with
    |some b=>if b.ct=ct∧b.sz=sz∧b.bx=false∧i<len then some (.c (.ptr id ct (off+i) 0),[]) else none
    |none=>none)
   |some (.sl _ sz' rows),some i=>if sz'=sz then(rows[i]?).map fun r=>(.c (.vp r 0),[]) else none
   |_,_=>none
 | .idx x ix=>
   match jL t x,pn t ix with
   |some (.str s),some i=>if h:i<s.size then some (.c (.int .u8 (s[i]'h).toNat),[]) else none
   |_,_=>none
 | .Ir agg off k x=>
   match look t x with
   |some (.a cs)=>if agg then(if off+k≤cs.length then some (.a ((cs.drop off).take k),[]) else none) else(cs[off]?).map fun c=>(.c c,[])
   |_=>none
 | .ext i x=>match look t x with|some (.lM vs)=>(vs[i]?).map fun v=>(v,[])|_=>none
 | .len x=>match jL t x with|some x=>(lenOf x).map fun (m:Nat)=>(.c (.int .i64 (m:Int)),[])|none=>none
 | .ky x=>match jL t x with|some (.str s)=>some (.c (.int .i64 (s.size:Int)),[])|_=>none
 | .app sz bytes x y=>
   match jL t x,jL t y with
   |some x,some y=>
    match vf o sz y with
    |none=>none
    |some ys=>
     if bytes≤4096 then
     match x with
     | .aL _=>if ys.length≤4294967296 then some (.c (.row d n 0 ys.length),[(d,{ct:=n,sz:=sz,w:=true,bx:=false,rows:=ys})]) else none
     | .row id ct 0 len=>
       (match get o id with
       |some b=>if b.ct=ct∧b.w=true∧b.bx=false∧b.sz=sz∧len≤b.rows.length∧len+ys.length≤4294967296 then
        some (.c (.row id n 0 (len+ys.length)),[(id,{b with ct:=n,rows:=b.rows.take len++ys})]) else none
       |none=>none)
     |_=>none
     else none
   |_,_=>none
 | .yk sz bytes x y=>
   match jL t x,jL t y with
   |some (.row id ct 0 len),some y=>
    (match vf o sz y,get o id with
    |some ys,some b=>if bytes≤4096∧b.ct=ct∧b.w=true∧b.bx=false∧b.sz=sz∧len+ys.length≤b.rows.length∧len+ys.length≤4294967296 then
     some (.c (.row id ct 0 (len+ys.length)),[(id,{b with rows:=b.rows.take len++ys++b.rows.drop (len+ys.length)})]) else none
    |_,_=>none)
   |_,_=>none
 | .yc size x lo hi=>
   match jL t x with
   |some (.row id ct off len)=>
    (match get o id,vV t 0 lo,vV t len hi with
    |some b,some l,some h=>if b.ct=ct∧b.bx=false∧b.sz=size∧l≤h∧off+h≤b.rows.length then(if l=h∧off+l≠0 then some (.c (.sl false b.sz []),[]) else some (.c (.row id ct (off+l) (h-l)),[])) else none
    |_,_,_=>none)
   |_=>none
 | .EH zero x=>
   match jL t x with
   |some (.aL _)=>some (.undef,[])
   |some (.sl _ _ [])=>some (.undef,[])
   |some (.row id ct off len)=>(match get o id with
    |some b=>if len=0 then some (.undef,[]) else if b.ct=ct∧b.w=true∧b.bx=false∧b.sz=zero.length∧off+len≤b.rows.length then
     some (.undef,[(id,{b with rows:=b.rows.take off++List.replicate len zero++b.rows.drop (off+len)})]) else none
    |none=>none)
   |_=>none
 | .max x y=>match jL t x,jL t y with|some x,some y=>(max2 x y).map fun v=>(.c v,[])|_,_=>none
 | .min x y=>match jL t x,jL t y with|some x,some y=>(min2 x y).map fun v=>(.c v,[])|_,_=>none
 | .call f as lend thaw=>match h_ (look t) as with|some vals=>gh cf n o f vals lend thaw|none=>none
 | .oO x as=>match jL t x,h_ (look t) as with
   |some (.fn f caps),some vals=>gh cf n o f (vals++caps.map .c) [] []
   |_,_=>none
 | .tL f caps=>(h_ (jL t) caps).map fun cs=>(.c (.fn f cs),[])
 | .lq x=>match jL t x with
   |some (.ptr a b c e)=>some (.c (.ptr a b c e),[])
   |some (.vp a b)=>some (.c (.vp a b),[])
   |some (.fn a b)=>some (.c (.fn a b),[])
   |_=>none
def wanted(t:List (Nat×V)):Option (Nat×Bool)→Option Bool
 |none=>some true
 |some (g,b)=>match get t g with|some (.c (.bool v))=>some (v==b)|some .undef=>some false|_=>none
def oH(t:List (Nat×V))(d:Option Nat)(v:V):List (Nat×V):=match d with|some d=>(d,v)::t|none=>t
def step(cf:cI)(n i:Nat)(m:og)(t:List (Nat×V))(o:List (Nat×Ob)):Option (List (Nat×V)×List (Nat×Ob)):=
 match wanted t m.guard with
 |some true=>(act cf (n+16*i) (m.dst.getD 0) t o m.op).map fun r=>(oH t m.dst r.1,r.2++o)
 |some false=>some (oH t m.dst .undef,o)
 |none=>none
def steps(cf:cI)(n:Nat):Nat→List og→List (Nat×V)→List (Nat×Ob)→Option (List (Nat×V)×List (Nat×Ob))
 |_,[],t,o=>some (t,o)
 |i,m::ms,t,o=>match step cf n i m t o with|some (t',o')=>steps cf n (i+1) ms t' o'|none=>none
def O.tmps:O→List Nat
 | .t n=>[n]
 |_=>[]
def tK:Option O→List Nat
 |some x=>x.tmps
 |none=>[]
def MO.tmps:MO→List Nat
 | .mv x=>x.tmps
 | .np=>[]
 | .nil _=>[]
 | .pick c a b=>c.tmps++a.tmps++b.tmps
 | .alloc _=>[]
 | .box x=>x.tmps
 | .build _ parts=>parts.flatMap fun p=>p.2.2.tmps
 | .bF _ _ _ parts=>parts.flatMap fun p=>p.2.tmps
 | .A3 _ _ _ parts=>parts.flatMap fun p=>p.2.tmps
 | .load _ _ a=>a.tmps
 | .store _ a x=>a.tmps++x.tmps
 | .beq _ x y=>x.tmps++y.tmps
 | .bin _ x y=>x.tmps++y.tmps
 | .eqs _ _ x y=>x.tmps++y.tmps
 | .not x=>x.tmps
 | .neg x=>x.tmps
 | .ry _ x=>x.tmps
 | .EI x=>x.tmps
 | .EE _ _ _ x=>x.tmps
 | .KI _ _ _ x y=>x.tmps++y.tmps
 | .oB x lo hi=>x.tmps++tK lo++tK hi
 | .wL _ x lo hi mx=>x.tmps++tK lo++tK hi++tK mx
 | .bN _ a=>a.tmps
 | .kG _ x ix=>x.tmps++ix.tmps
 | .idx x ix=>x.tmps++ix.tmps
 | .Ir _ _ _ x=>x.tmps
 | .ext _ x=>x.tmps
 | .len x=>x.tmps
 | .ky x=>x.tmps
 | .app _ _ x y=>x.tmps++y.tmps
 | .yk _ _ x y=>x.tmps++y.tmps
 | .yc _ x lo hi=>x.tmps++tK lo++tK hi
 | .EH _ x=>x.tmps
 | .max x y=>x.tmps++y.tmps
 | .min x y=>x.tmps++y.tmps
 | .call _ args _ _=>args.flatMap O.tmps
 | .oO f args=>f.tmps++args.flatMap O.tmps
 | .tL _ caps=>caps.flatMap O.tmps
 | .lq x=>x.tmps
def qh:T→List Nat
 | .row id _ _ _=>[id]
 | .ptr id _ _ _=>[id]
 | .fn _ caps=>caps.flatMap fun
   | .row id _ _ _=>[id]
   | .ptr id _ _ _=>[id]
   |_=>[]
 |_=>[]
def pv(o:List (Nat×Ob))(id:Nat):List Nat:=match get o id with
 |some b=>if b.bx then b.rows.flatMap fun r=>r.flatMap qh else []
 |none=>[]
def oY(o:List (Nat×Ob)):V→List Nat
 | .c t=>qh t++(qh t).flatMap (pv o)
 | .a ts=>ts.flatMap fun t=>qh t++(qh t).flatMap (pv o)
 |_=>[]
def MO.Cd:MO→List Nat
 | .mv _=>[]
 |m=>m.tmps
def lL(t:List (Nat×V))(o:List (Nat×Ob))(m:MO):List Nat:=m.Cd.flatMap fun x=>match get t x with|some v=>oY o v|none=>[]
structure oK where
 dst:Option Nat
 v:V
 gf:List (Nat×Ob)
 T:List Nat
def oK.W(e:oK):List Nat:=e.gf.map (·.1)
def oK.apart(e f:oK):Bool:=e.W.all (fun x=> !f.T.contains x&& !f.W.contains x)&&f.W.all (fun x=> !e.T.contains x)
def oe(cf:cI)(n i:Nat)(m:og)(t:List (Nat×V))(o:List (Nat×Ob)):Option oK:=
 match wanted t m.guard with
 |some true=>(act cf (n+16*i) (m.dst.getD 0) t (keep (lL t o m.op) o) m.op).map fun r=>⟨m.dst,r.1,r.2,lL t o m.op⟩
 |some false=>some ⟨m.dst,.undef,[],[]⟩
 |none=>none
def kf(cf:cI)(n:Nat):Nat→List og→List (List Nat)→List (Nat×V)→List (Nat×Ob)→List (Nat×oK)→Option (List (Nat×V)×List (Nat×Ob))
 |_,[],_,t,o,_=>some (t,o)
 |i,m::ms,a::as,t,o,acc=>
  match oe cf n i m t o with
  |some e=>if acc.all (fun x=>a.contains x.1||e.apart x.2) then kf cf n (i+1) ms as (oH t e.dst e.v) (e.gf++o) ((i,e)::acc) else none
  |none=>none
 |_,_::_,[],_,_,_=>none
inductive Out where
 |normal
 |exit (id:Nat)
 |ret
def fx(f:St→Option (Out×St)):Nat→St→Option (Out×St)
 |0,_=>none
 |k+1,s=>match f s with
  |some (.normal,s')=>fx f k s'
  |r=>r
def uz(ids:List Nat)(o:List (Nat×Ob)):List (Nat×Ob):=o.map fun p=>(p.1,if p.1∈ids then {p.2 with w:=false} else p.2)
def cz(cf:cI)(k:Nat):C→St→Option (Out×St)
 | .skip,s=>some (.normal,s)
 | .ai ops kt ko,s=>(steps cf s.n 0 ops s.t s.o).map fun r=>(.normal,{t:=keep kt r.1,o:=keep ko r.2,n:=s.n+16*ops.length})
 | .gV ops anc kt ko,s=>(kf cf s.n 0 ops anc s.t s.o []).map fun r=>(.normal,{t:=keep kt r.1,o:=keep ko r.2,n:=s.n+16*ops.length})
 | .seq a b,s=>match cz cf k a s with|some (.normal,s')=>cz cf k b s'|r=>r
 | .cond c a b,s=>match qa s.t c with|some true=>cz cf k a s|some false=>cz cf k b s|none=>none
 | .block id a,s=>match cz cf k a s with|some (.exit id',s')=>some (if id'=id then(.normal,s') else(.exit id',s'))|r=>r
 | .loop a,s=>fx (cz cf k a) k s
 | .exit id,s=>some (.exit id,s)
 | .ret,s=>some (.ret,s)
 | .shut ids a,s=>cz cf k a {s with o:=uz ids s.o}
def t_(np:Nat)(o:List (Nat×Ob)):T→Option T
 | .int k n=>some (.int k n)
 | .bool b=>some (.bool b)
 | .str s=>some (.str s)
 | .aL sz=>some (.sl true sz [])
 | .sl _ sz rows=>some (.sl false sz rows)
 | .row id ct off len=>
   match get o id with
   |some b=>if b.ct=ct∧b.bx=false∧off+len≤b.rows.length then
    if om np id then some (.row id ct off len) else
    if b.w∧off=0 then some (.sl true b.sz (b.rows.take len)) else if b.w then none else some (.sl false b.sz ((b.rows.drop off).take len)) else none
   |none=>none
 | .ptr id ct i j=>
   match get o id with
   |some b=>if b.ct=ct∧b.w=true∧b.bx=true∧i=0∧j=0∧om np id=false then
    (match b.rows with|[r]=>(h_ (cl o) r).map fun r'=> .vp r' 0|_=>none) else none
   |none=>none
 |_=>none
def V.fin(np:Nat)(o:List (Nat×Ob)):V→Option V
 | .c t=>(t_ np o t).map .c
 | .a ts=>(h_ (t_ np o) ts).map .a
 |_=>none
def zt(np:Nat)(o:List (Nat×Ob))(v:V):List Nat:=(v.cells.getD []).flatMap fun
 | .row id _ _ _=>if om np id then [] else(match get o id with|some b=>if b.w then [id] else []|none=>[])
 | .ptr id _ _ _=>if om np id then [] else(match get o id with|some b=>if b.w then [id] else []|none=>[])
 |_=>[]
def Fm(t:List (Nat×V))(o:List (Nat×Ob)):R→Option V
 | .tmp x=>get t x
 | .cell x agg k=>match get t x with
   |some (.c a)=>(match place o a with
    |some (r,j)=>if agg then(if j+k≤r.length then some (.a ((r.drop j).take k)) else none) else(r[j]?).map .c
    |none=>none)
   |_=>none
def Hf:List V→V
 |[v]=>v
 |vs=> .lM vs
def so(o:List (Nat×Ob)):List (Nat×Ob)→Option (List (Nat×Ob))
 |[]=>some []
 |(p,_)::l=>
  match get o p,so o l with
  |some b,some l'=>
   if b.ct=p∧b.w=true then
    if b.bx then(h_ (fun r=>h_ (cl o) r) b.rows).map fun rows=>(p,{b with rows:=rows})::l' else some ((p,b)::l')
   else none
  |_,_=>none
def ba(cf:cI)(k:Nat)(f:Fn)(as:List V)(lent:List (Nat×Ob)):Option (V×List (Nat×Ob)):=
 if as.length=f.np then
  match cz cf k f.body {t:=(List.range f.np).zip as,o:=lent,n:=2000000} with
  |some (.exit _,_)=>none
  |some (_,s)=>
   match h_ (Fm s.t s.o) f.res,so s.o lent with
   |some vs,some after=>if(vs.flatMap (zt f.np s.o)).Nodup then(h_ (V.fin f.np s.o) vs).map fun vs=>(Hf vs,after) else none
   |_,_=>none
  |none=>none
 else none
inductive Body where
 |code (f:Fn)
 |ext (g:List V→List (Nat×Ob)→Option (V×List (Nat×Ob)))
def yh(M:Nat→Option Body):Nat→cI
 |0,_,_,_=>none
 |k+1,f,as,lent=>match M f with
  |some (.code b)=>ba (yh M k) k b as lent
  |some (.ext g)=>g as lent
  |none=>none
end Mx
namespace Mx
open Go
inductive Loc where
 |nil
 |kP (b cap sz:Nat)
structure Cx where
 w:World
 U:Nat→Prop
 E:Nat→Option Loc
 F:Nat→FuncId
def gK(b:Nat):Addr:=⟨b,0,none⟩
theorem lz(b n:Nat):(gK b).add n=⟨b,n,none⟩:=by unfold Addr.add gK;split<;>simp_all
theorem kL(a:Addr)(n:Nat):(a.add n).block=a.block:=by unfold Addr.add;split<;>simp
theorem add_zero(a:Addr):a.add 0=a:=by simp[Addr.add]
theorem add_add(a:Addr)(m n:Nat):(a.add m).add n=a.add (m+n):=by
 unfold Addr.add;by_cases h1:n=0<;>by_cases h2:m=0<;>simp_all<;>omega
inductive ff:T→Prop
 |int (k:IntKind) (n:Int):ff (.int k n)
 |bool (b:Bool):ff (.bool b)
 |str (s:ByteArray):ff (.str s)
 |aL (sz:Nat):ff (.aL sz)
 |sl (own:Bool) (sz:Nat) (rows:List (List T)) (h:∀(i j:Nat) (r:List T) (t:T),rows[i]? =some r→r[j]? =some t→ff t):ff (.sl own sz rows)
 |vp (cells:List T) (j:Nat) (h:∀(q:Nat) (t:T),cells[j+q]? =some t→ff t):ff (.vp cells j)
 |fn (f:Nat) (caps:List T) (h:∀(i:Nat) (t:T),caps[i]? =some t→ff t):ff (.fn f caps)
inductive j7 (X:Cx):T→Value→Prop
 |int (k:IntKind) (n:Int):j7 X (.int k n) (.int k n)
 |bool (b:Bool):j7 X (.bool b) (.bool b)
 |str (s:ByteArray):j7 X (.str s) (.string s)
 |aL (sz:Nat):j7 X (.aL sz) (.slice none 0 0)
 |sl (own:Bool) (sz:Nat) (rows:List (List T)) (A:Option Addr) (c:Nat) (vs:Nat→Nat→Value) (hc:rows.length≤c)
   (hsz:∀(i:Nat) (r:List T),rows[i]? =some r→r.length=sz)
   (hcell:∀(i j:Nat) (r:List T) (t:T),rows[i]? =some r→r[j]? =some t→∃ad,A=some ad∧¬X.U ad.block∧X.w.cell? (ad.add (i*sz+j))=some (vs i j))
   (hrep:∀(i j:Nat) (r:List T) (t:T),rows[i]? =some r→r[j]? =some t→j7 X t (vs i j))
   (hcl:∀(i j:Nat) (r:List T) (t:T),rows[i]? =some r→r[j]? =some t→ff t):j7 X (.sl own sz rows) (.slice A rows.length c)
 |row (id ct off len cap sz b:Nat) (hE:X.E ct=some (.kP b cap sz)) (hl:off+len≤cap) (ho:0<len∨off=0):
   j7 X (.row id ct off len) (.slice (some ((gK b).add (off*sz))) len (cap-off))
 |oi (id ct:Nat) (hE:X.E ct=some .nil):j7 X (.row id ct 0 0) (.slice none 0 0)
 |ptr (id ct i j b cap sz:Nat) (hE:X.E ct=some (.kP b cap sz)):j7 X (.ptr id ct i j) (.pointer (some ((gK b).add (i*sz+j))))
 |vp (cells:List T) (j:Nat) (ad:Addr) (vs:Nat→Value)
   (hcell:∀(q:Nat) (t:T),cells[j+q]? =some t→¬X.U ad.block∧X.w.cell? (ad.add q)=some (vs q))
   (hrep:∀(q:Nat) (t:T),cells[j+q]? =some t→j7 X t (vs q))
   (hcl:∀(q:Nat) (t:T),cells[j+q]? =some t→ff t):j7 X (.vp cells j) (.pointer (some ad))
 |fn (f:Nat) (caps:List T) (cs:Array Value) (hn:caps.length=cs.size)
   (hrep:∀(i:Nat) (t:T) (v:Value),caps[i]? =some t→cs[i]? =some v→j7 X t v):j7 X (.fn f caps) (.func (.func (X.F f)) #[] cs)
theorem j7.one{X:Cx}{t:T}{v:Value}(h:j7 X t v):v.oneCell'=true:=by cases h<;>rfl
theorem j7.cells{X:Cx}{t:T}{v:Value}(h:j7 X t v):v.cells= #[v]:=by cases h<;>rfl
structure mH (X X':Cx):Prop where
 F:X'.F=X.F
 E:∀ct l,X.E ct=some l→X'.E ct=some l
 c:∀ad v,¬X.U ad.block→X.w.cell? ad=some v→X'.w.cell? ad=some v∧¬X'.U ad.block
theorem mH.refl(X:Cx):mH X X:=⟨rfl,fun _ _ h=>h,fun _ _ h k=>⟨k,h⟩⟩
theorem mH.trans{X Y Z:Cx}(h:mH X Y)(k:mH Y Z):mH X Z:=
 ⟨k.F.trans h.F,fun v l q=>k.E v l (h.E v l q),fun ad v hu hc=>k.c ad v (h.c ad v hu hc).2 (h.c ad v hu hc).1⟩
theorem j7.mono{X X':Cx}(K:mH X X'){t:T}{v:Value}(h:j7 X t v):j7 X' t v:=by
 induction h with
 |int k n=>exact .int k n
 |bool b=>exact .bool b
 |str s=>exact .str s
 |aL sz=>exact .aL sz
 |sl own sz rows A c vs hc hsz hcell hrep hcl ih=>
  refine .sl own sz rows A c vs hc hsz ?_ ih hcl;intro i j r t hr ht;obtain⟨ad,rfl,hu,hw⟩:=hcell i j r t hr ht;have hb:¬X.U (ad.add (i*sz+j)).block:=by rw[kL];exact hu
  have:=K.c _ _ hb hw;rw[kL] at this;exact⟨ad,rfl,this.2,this.1⟩
 |row id ct off len cap sz b hE hl ho=>exact .row id ct off len cap sz b (K.E _ _ hE) hl ho
 |oi id ct hE=>exact .oi id ct (K.E _ _ hE)
 |ptr id ct i j b cap sz hE=>exact .ptr id ct i j b cap sz (K.E _ _ hE)
 |vp cells j ad vs hcell hrep hcl ih=>
  refine .vp cells j ad vs ?_ ih hcl;intro q t ht;obtain⟨hu,hw⟩:=hcell q t ht;have hb:¬X.U (ad.add q).block:=by rw[kL];exact hu
  have:=K.c _ _ hb hw;rw[kL] at this;exact⟨this.2,this.1⟩
 |fn f caps cs hn hrep ih=>rw[←K.F];exact .fn f caps cs hn ih
inductive kQ (X:Cx):V→Value→Prop
 |c (t:T) (v:Value) (h:j7 X t v):kQ X (.c t) v
 |a (ts:List T) (cs:Array Value) (hn:ts.length=cs.size) (h:∀(i:Nat) (t:T) (v:Value),ts[i]? =some t→cs[i]? =some v→j7 X t v):kQ X (.a ts) (.agg cs)
 |lM (vs:List V) (xs:Array Value) (hn:vs.length=xs.size) (h:∀(i:Nat) (v:V) (x:Value),vs[i]? =some v→xs[i]? =some x→kQ X v x):kQ X (.lM vs) (.tuple xs)
 |undef (v:Value) (h:∀b,v≠.bool b):kQ X .undef v
theorem kQ.mono{X X':Cx}(K:mH X X'){t:V}{v:Value}(h:kQ X t v):kQ X' t v:=by
 induction h with
 |c t v h=>exact .c t v (h.mono K)
 |a ts cs hn h=>exact .a ts cs hn fun i t v ht hv=>(h i t v ht hv).mono K
 |lM vs xs hn h ih=>exact .lM vs xs hn ih
 |undef v h=>exact .undef v h
def g_(X:Cx)(ts:List T)(cs:List Value):Prop:=ts.length=cs.length∧∀(i:Nat) (t:T) (v:Value),ts[i]? =some t→cs[i]? =some v→j7 X t v
theorem g_.mono{X X':Cx}(K:mH X X'){ts:List T}{cs:List Value}(h:g_ X ts cs):g_ X' ts cs:=⟨h.1,fun i t v ht hv=>(h.2 i t v ht hv).mono K⟩
theorem g_.nil(X:Cx):g_ X [] []:=⟨rfl,fun i t v h=>by simp at h⟩
theorem g_.cons{X:Cx}{t:T}{v:Value}{ts:List T}{cs:List Value}(h:j7 X t v)(hl:g_ X ts cs):g_ X (t::ts) (v::cs):=by
 refine⟨by simp[hl.1],fun i a b ha hb=> ?_⟩;cases i with
 |zero=>simp at ha hb;subst ha hb;exact h
 |succ i=>simp at ha hb;exact hl.2 i a b ha hb
theorem g_.wu{X:Cx}{t:T}{ts:List T}{cs:List Value}(h:g_ X (t::ts) cs):∃v cs',cs=v::cs'∧j7 X t v∧g_ X ts cs':=by
 cases cs with
 |nil=>simp[g_] at h
 |cons v cs'=>
  refine⟨v,cs',rfl,h.2 0 t v (by simp) (by simp),by have:=h.1;simpa using this,fun i a b ha hb=>h.2 (i+1) a b (by simpa using ha) (by simpa using hb)⟩
theorem g_.append{X:Cx}{ts us:List T}{cs ds:List Value}(h:g_ X ts cs)(k:g_ X us ds):g_ X (ts++us) (cs++ds):=by
 induction ts generalizing cs with
 |nil=>have:=h.1;cases cs with|nil=>simpa using k|cons=>simp at this
 |cons t ts ih=>
  obtain⟨v,cs',rfl,hv,hl⟩:=h.wu;exact .cons hv (ih hl)
theorem g_.take{X:Cx}{ts:List T}{cs:List Value}(h:g_ X ts cs)(n:Nat):g_ X (ts.take n) (cs.take n):=by
 refine⟨by simp[h.1],fun i t v ht hv=> ?_⟩;rw[b8] at ht hv;split at ht
 ·rename_i hi;rw[if_pos hi] at hv;exact h.2 i t v ht hv
 ·cases ht
theorem g_.drop{X:Cx}{ts:List T}{cs:List Value}(h:g_ X ts cs)(n:Nat):g_ X (ts.drop n) (cs.drop n):=by
 refine⟨by simp[h.1],fun i t v ht hv=> ?_⟩;rw[fK] at ht hv;exact h.2 _ t v ht hv
theorem g_.one{X:Cx}{ts:List T}{cs:List Value}(h:g_ X ts cs):∀v∈cs,v.oneCell'=true:=by
 intro v hv;obtain⟨i,hi,rfl⟩:=List.mem_iff_getElem.1 hv;have:i<ts.length:=by rw[h.1];exact hi
 exact(h.2 i ts[i] cs[i] (by simp[this]) (by simp[hi])).one
theorem g_.replicate{X:Cx}{ts:List T}{cs:List Value}(h:g_ X ts cs)(n:Nat):g_ X (List.replicate n ts).flatten (List.replicate n cs).flatten:=by
 induction n with
 |zero=>simp[g_]
 |succ n ih=>simp only[List.replicate_succ,List.flatten_cons];exact h.append ih
theorem kQ.cells{X:Cx}{v:V}{x:Value}{ts:List T}(h:kQ X v x)(hc:v.cells=some ts):g_ X ts x.cells.toList:=by
 cases h with
 |c t v h=>simp[V.cells] at hc;subst hc;rw[h.cells];exact .cons h (.nil X)
 |a ts cs hn h=>simp[V.cells] at hc;subst hc;exact⟨by simpa [Value.cells] using hn,fun i t v ht hv=>h i t v ht (by simpa [Value.cells] using hv)⟩
 |lM=>simp[V.cells] at hc
 |undef=>simp[V.cells] at hc
theorem kQ.KB{X:Cx}{ts:List T}{cs:List Value}(h:g_ X ts cs):kQ X (.a ts) (.agg cs.toArray):=
 .a ts _ (by simpa using h.1) fun i t v ht hv=>h.2 i t v ht (by simpa using hv)
structure s5 (X:Cx) (ob:Ob) (b cap:Nat):Prop where
 len:ob.rows.length≤cap
 width:∀(i:Nat) (r:List T),ob.rows[i]? =some r→r.length=ob.sz
 cl:ob.bx=false→∀(i j:Nat) (r:List T) (t:T),ob.rows[i]? =some r→r[j]? =some t→ff t
 mem:∃cs e fr,X.w.heap[b]? =some (.cells cs e fr)∧cs.size=cap*ob.sz∧(∀o,o≤cs.size→¬(fr.1≤o∧o<fr.2))∧
  ∀(i j:Nat) (r:List T) (t:T),ob.rows[i]? =some r→r[j]? =some t→∃v,cs[i*ob.sz+j]? =some v∧j7 X t v
def oJ(X:Cx)(ob:Ob):Loc→Prop
 | .nil=>ob.rows=[]∧ob.bx=false
 | .kP b cap sz=>sz=ob.sz∧s5 X ob b cap
theorem s5.mono{X X':Cx}(K:mH X X'){ob:Ob}{b cap:Nat}(h:s5 X ob b cap)(hb:X'.w.heap[b]? =X.w.heap[b]?):s5 X' ob b cap:=by
 obtain⟨hl,hw,hcl,cs,e,fr,h1,h2,h3,h4⟩:=h;refine⟨hl,hw,hcl,cs,e,fr,hb.trans h1,h2,h3,fun i j r t hr ht=> ?_⟩;obtain⟨v,hv,hr⟩:=h4 i j r t hr ht;exact⟨v,hv,hr.mono K⟩
def cx(F:Nat→FuncId)(Pr:Nat→Prop)(E:Nat→Option Loc)(o:List (Nat×Ob))(w:World):Cx:=
 {w:=w,U:=fun b=>(∃id ob cap sz,get o id=some ob∧ob.w=true∧E ob.ct=some (.kP b cap sz))∨Pr b,E:=E,F:=F}
structure Lb where
 b:Nat→Prop
 E:Nat→Option Loc
instance:CoeFun Lb (fun _=>Nat→Prop):=⟨Lb.b⟩
def CH(F:Nat→FuncId)(lb:Nat→Prop)(w:World):Prop:=F 999998=0∨(F 999999<w.heap.size∧¬lb (F 999999)∧∃m,w.cell? ⟨F 999999,0,none⟩=some (.int .i64 m))
theorem Ed{w w':World}{b:Nat}(h:w'.heap[b]? =w.heap[b]?):w'.cell? ⟨b,0,none⟩=w.cell? ⟨b,0,none⟩:=by
 simp only[World.cell?,h]
structure Rel (F:Nat→FuncId) (Pr:Nat→Prop) (w0:World) (lb:Lb) (N:Nat) (E:Nat→Option Loc) (n:Nat→Prop) (t:List (Nat×V)) (o:List (Nat×Ob)) (a:Act) (w:World):Prop where
 os:w.os=w0.os
 tape:w.tape=w0.tape
 output:w.output=w0.output
 size:w0.heap.size≤w.heap.size
 frame:∀b,b<w0.heap.size→¬lb b→w.heap[b]? =w0.heap[b]?
 defers:a.defers=[]
 nt:a.tmps.size=N
 tmps:∀d v,get t d=some v→kQ (cx F Pr E o w) v (a.tmps.getD d undef)
 oc:∀id ob,get o id=some ob→n ob.ct∧∃l,E ob.ct=some l∧oJ (cx F Pr E o w) ob l
 place:∀id ob b cap sz,get o id=some ob→E ob.ct=some (.kP b cap sz)→b<w.heap.size∧(w0.heap.size≤b∨lb b)
 pA:∀id id' ob ob' b cap sz cap' sz',get o id=some ob→get o id'=some ob'→E ob.ct=some (.kP b cap sz)→E ob'.ct=some (.kP b cap' sz')→id=id'
 fresh:∀ct l,E ct=some l→n ct
 pr:(∀b,Pr b→b<w0.heap.size∧¬lb b)∧CH F lb w0
 ext:∀ct l,lb.E ct=some l→E ct=some l
structure Fr (n:Nat→Prop) (nn:Nat) (n':Nat→Prop):Prop where
 new:∀k,nn≤k→k<nn+16→¬n k
 mX:∀k,n k→n' k
 add:∀k,nn≤k→k<nn+16→n' k
theorem sX{α:Type}(k:Nat)(v:α)(l:List (Nat×α)):get ((k,v)::l) k=some v:=by simp[get]
theorem rP{α:Type}{k x:Nat}(h:x≠k)(v:α)(l:List (Nat×α)):get ((k,v)::l) x=get l x:=by simp[get,h]
theorem xr{α:Type}(ks:List Nat)(l:List (Nat×α)){x:Nat}{v:α}(h:get (keep ks l) x=some v):get l x=some v:=by
 induction ks with
 |nil=>simp[keep,get] at h
 |cons k ks ih=>
  simp only[keep,List.filterMap_cons] at h;cases hk:get l k with
  |none=>simp only[hk,Option.map_none] at h;exact ih h
  |some u=>
   simp only[hk,iF,get] at h;split at h
   ·rename_i e;subst e;exact hk.trans h
   ·exact ih h
theorem get_append{α:Type}(l l':List (Nat×α))(x:Nat):get (l++l') x=(get l x).or (get l' x):=by
 induction l with
 |nil=>simp[get]
 |cons p l ih=>obtain⟨k,v⟩:=p;simp only[List.cons_append,get];split<;>simp[ih]
variable {F:Nat→FuncId} {Pr:Nat→Prop} {w0:World} {lb:Lb} {N:Nat} {E:Nat→Option Loc} {n:Nat→Prop} {t:List (Nat×V)} {o:List (Nat×Ob)} {a:Act} {w:World}
theorem zT{w:World}{ad:Addr}{v:Value}(h:w.cell? ad=some v):ad.block<w.heap.size:=World.block_lt_of_cell? w ad h
theorem o4{w w':World}{ad:Addr}(h:w'.heap[ad.block]? =w.heap[ad.block]?):w'.cell? ad=w.cell? ad:=by simp[World.cell?,h]
theorem F0(a:Act)(d:Nat)(v:Value)(x:Nat)(h:d<a.tmps.size):(a.put (some d) v).tmps.getD x undef=if x=d then v else a.tmps.getD x undef:=by
 simp only[Act.put,dv,Array.getElem?_setIfInBounds];by_cases e:d=x
 ·subst e;simp[h]
 ·have:¬x=d:=fun q=>e q.symm
  simp[e,this]
theorem Rel.put(R:Rel F Pr w0 lb N E n t o a w){dst:Option Nat}{v:V}{val:Value}(hd:∀d,dst=some d→d<N)(hv:kQ (cx F Pr E o w) v val):
  Rel F Pr w0 lb N E n (oH t dst v) o (a.put dst val) w:=by
 cases dst with
 |none=>exact R
 |some d=>
  have hdn:=hd d rfl;refine {R with defers:=R.defers,nt:=by simpa [Act.put] using R.nt,tmps:= ?_}
  intro x u hu;rw[F0 a d val x (by rw[R.nt];exact hdn)];simp only[oH,get] at hu;split at hu
  ·rename_i e;rw[if_pos e];cases hu;exact hv
  ·rename_i e;rw[if_neg e];exact R.tmps x u hu
theorem Rel.same(R:Rel F Pr w0 lb N E n t o a w){w':World}(hh:w'.heap=w.heap)(h1:w'.os=w.os)(h2:w'.tape=w.tape)(h3:w'.output=w.output){n':Nat→Prop}(hn:∀k,n k→n' k):
  Rel F Pr w0 lb N E n' t o a w':=by
 have K:mH (cx F Pr E o w) (cx F Pr E o w'):=⟨rfl,fun _ _ h=>h,fun ad v hu hc=>⟨by rw[←hc];exact o4 (by rw[show (cx F Pr E o w').w=w' from rfl,show (cx F Pr E o w).w=w from rfl,hh]),hu⟩⟩;refine⟨h1.trans R.os,h2.trans R.tape,h3.trans R.output,by rw[hh];exact R.size,fun b hb hl=>by rw[hh];exact R.frame b hb hl,R.defers,R.nt,fun d v hv=>(R.tmps d v hv).mono K, ?_, ?_,R.pA,fun v l h=>hn _ (R.fresh v l h),R.pr,R.ext⟩
 ·intro id ob ho;obtain⟨h,l,hl,hr⟩:=R.oc id ob ho;refine⟨hn _ h,l,hl, ?_⟩;cases l with
  |nil=>exact hr
  |kP b cap sz=>exact⟨hr.1,hr.2.mono K (by rw[show (cx F Pr E o w').w=w' from rfl,show (cx F Pr E o w).w=w from rfl,hh])⟩
 ·intro id ob b cap sz ho he;rw[hh];exact R.place id ob b cap sz ho he
theorem Rel.KW(R:Rel F Pr w0 lb N E n t o a w){w':World}{E':Nat→Option Loc}{n':Nat→Prop}{id:Nat}{ob':Ob}{l':Loc}
  (h1:w'.os=w.os) (h2:w'.tape=w.tape) (h3:w'.output=w.output) (hsz:w.heap.size≤w'.heap.size)
  (hn:∀k,n k→n' k) (hE:∀ct l,E ct=some l→E' ct=some l) (hfresh:∀ct l,E' ct=some l→n' ct)
  (hheap:∀b,b<w.heap.size→(∀ob cap sz,get o id=some ob→ob.w=true→E ob.ct=some (.kP b cap sz)→False)→w'.heap[b]? =w.heap[b]?)
  (hl:E' ob'.ct=some l')
  (hplace:∀b cap sz,l'= .kP b cap sz→b<w'.heap.size∧(w.heap.size≤b∨∃ob cap sz,get o id=some ob∧ob.w=true∧E ob.ct=some (.kP b cap sz)))
  (hrep:mH (cx F Pr E o w) (cx F Pr E' ((id,ob')::o) w')→oJ (cx F Pr E' ((id,ob')::o) w') ob' l'):
  Rel F Pr w0 lb N E' n' t ((id,ob')::o) a w'∧mH (cx F Pr E o w) (cx F Pr E' ((id,ob')::o) w'):=by
 have hEq:∀i ob l,get o i=some ob→E' ob.ct=some l→E ob.ct=some l:=by
  intro i ob l ho he;obtain⟨_,l2,hl2,_⟩:=R.oc i ob ho;have:=hE _ _ hl2;rw[he] at this;cases this;exact hl2
 have K:mH (cx F Pr E o w) (cx F Pr E' ((id,ob')::o) w'):=by
  refine⟨rfl,hE,fun ad v hu hc=> ?_⟩;have hlt:ad.block<w.heap.size:=zT hc;have hh:w'.heap[ad.block]? =w.heap[ad.block]? :=hheap _ hlt fun ob cap sz g1 g2 g3=>hu (.inl ⟨id,ob,cap,sz,g1,g2,g3⟩)
  refine⟨(o4 hh).trans hc, ?_⟩;rintro (⟨i,ob,cap,sz,g1,g2,g3⟩|hpr);rotate_left
  ·exact hu (.inr hpr)
  simp only[get] at g1;split at g1
  ·cases g1;rw[hl] at g3;cases g3;rcases (hplace _ _ _ rfl).2 with h|⟨ob,cap,sz,q1,q2,q3⟩
   ·omega
   ·exact hu (.inl ⟨id,ob,cap,sz,q1,q2,q3⟩)
  ·exact hu (.inl ⟨i,ob,cap,sz,g1,g2,hEq i ob _ g1 g3⟩)
 refine⟨⟨h1.trans R.os,h2.trans R.tape,h3.trans R.output,Nat.le_trans R.size hsz, ?_,R.defers,R.nt,fun d v hv=>(R.tmps d v hv).mono K, ?_, ?_, ?_,hfresh,R.pr,fun v l h=>hE _ _ (R.ext v l h)⟩,K⟩
 ·intro b hb hlb;refine(hheap b (Nat.lt_of_lt_of_le hb R.size) fun ob cap sz g1 g2 g3=> ?_).trans (R.frame b hb hlb);rcases (R.place id ob b cap sz g1 g3).2 with h|h
  ·omega
  ·exact hlb h
 ·intro i ob hi;simp only[get] at hi;split at hi
  ·cases hi;exact⟨hfresh _ _ hl,l',hl,hrep K⟩
  ·rename_i hne;obtain⟨hv,l,hl2,hr⟩:=R.oc i ob hi;refine⟨hn _ hv,l,hE _ _ hl2, ?_⟩;cases l with
   |nil=>exact hr
   |kP b cap sz=>
    refine⟨hr.1,hr.2.mono K (hheap b (R.place i ob b cap sz hi hl2).1 fun ob2 cap2 sz2 g1 g2 g3=>hne (R.pA i id ob ob2 b cap sz cap2 sz2 hi g1 hl2 g3))⟩
 ·intro i ob b cap sz hi he;simp only[get] at hi;split at hi
  ·cases hi;rw[hl] at he;cases he;obtain⟨q1,q2⟩:=hplace _ _ _ rfl;refine⟨q1, ?_⟩;rcases q2 with h|⟨ob,cap2,sz2,g1,g2,g3⟩
   ·exact .inl (Nat.le_trans R.size h)
   ·exact(R.place id ob b cap2 sz2 g1 g3).2
  ·obtain⟨q1,q2⟩:=R.place i ob b cap sz hi (hEq i ob _ hi he);exact⟨Nat.lt_of_lt_of_le q1 hsz,q2⟩
 ·have side:∀i ob b cap sz cap' sz',i≠id→get o i=some ob→E' ob.ct=some (.kP b cap sz)→l'= .kP b cap' sz'→False:=by
   intro i ob b cap sz cap' sz' hne hi he hl';have he':=hEq i ob _ hi he;rcases (hplace _ _ _ hl').2 with h|⟨ob2,cap2,sz2,g1,g2,g3⟩
   ·have:=(R.place i ob b cap sz hi he').1;omega
   ·exact hne (R.pA i id ob ob2 b cap sz cap2 sz2 hi g1 he' g3)
  intro i j ob ob2 b cap sz cap' sz' hi hj he hf;simp only[get] at hi hj;split at hi<;>split at hj
  ·rename_i e1 e2;exact e1.trans e2.symm
  ·rename_i e1 e2;cases hi;rw[hl] at he;exact(side j ob2 b cap' sz' cap sz e2 hj hf (by cases he;rfl)).elim
  ·rename_i e1 e2;cases hj;rw[hl] at hf;exact(side i ob b cap sz cap' sz' e1 hi he (by cases hf;rfl)).elim
  ·exact R.pA i j ob ob2 b cap sz cap' sz' hi hj (hEq i ob _ hi he) (hEq j ob2 _ hj hf)
theorem Rel.sub(R:Rel F Pr w0 lb N E n t o a w){t':List (Nat×V)}{o':List (Nat×Ob)}(ht:∀d v,get t' d=some v→get t d=some v)
  (ho:∀id ob',get o' id=some ob'→∃ob,get o id=some ob∧ob'.ct=ob.ct∧ob'.sz=ob.sz∧ob'.bx=ob.bx∧ob'.rows=ob.rows∧(ob'.w=true→ob.w=true)):
  Rel F Pr w0 lb N E n t' o' a w:=by
 have K:mH (cx F Pr E o w) (cx F Pr E o' w):=by
  refine⟨rfl,fun _ _ h=>h,fun ad v hu hc=>⟨hc, ?_⟩⟩;rintro (⟨i,ob',cap,sz,g1,g2,g3⟩|hpr)
  ·obtain⟨ob,q1,q2,_,_,_,q3⟩:=ho i ob' g1;exact hu (.inl ⟨i,ob,cap,sz,q1,q3 g2,by rw[←q2];exact g3⟩)
  ·exact hu (.inr hpr)
 refine {R with tmps:=fun d v hv=>(R.tmps d v (ht d v hv)).mono K,oc:= ?_,place:= ?_,pA:= ?_}
 ·intro id ob' h;obtain⟨ob,q1,q2,q3,q4,q5,q6⟩:=ho id ob' h;obtain⟨hv,l,hl,hr⟩:=R.oc id ob q1;refine⟨by rw[q2];exact hv,l,by rw[q2];exact hl, ?_⟩;cases l with
  |nil=>exact⟨by rw[q5];exact hr.1,by rw[q4];exact hr.2⟩
  |kP b cap sz=>
   obtain⟨e,h1,h2,hcl,h3⟩:=hr;refine⟨by rw[q3];exact e, ?_, ?_, ?_, ?_⟩
   ·rw[q5];exact h1
   ·rw[q5,q3];exact h2
   ·rw[q5,q4];exact hcl
   ·obtain⟨cs,e1,fr,m1,m2,m3,m4⟩:=h3;refine⟨cs,e1,fr,m1,by rw[q3];exact m2,m3, ?_⟩;rw[q5,q3];intro i j r t hr ht;obtain⟨v,hv,hrep⟩:=m4 i j r t hr ht;exact⟨v,hv,hrep.mono K⟩
 ·intro id ob' b cap sz h he;obtain⟨ob,q1,q2,_⟩:=ho id ob' h;exact R.place id ob b cap sz q1 (by rw[←q2];exact he)
 ·intro i j ob ob2 b cap sz cap' sz' hi hj he hf;obtain⟨x,q1,q2,_⟩:=ho i ob hi;obtain⟨y,r1,r2,_⟩:=ho j ob2 hj;exact R.pA i j x y b cap sz cap' sz' q1 r1 (by rw[←q2];exact he) (by rw[←r2];exact hf)
theorem Rel.keep(R:Rel F Pr w0 lb N E n t o a w)(kt ko:List Nat):Rel F Pr w0 lb N E n (keep kt t) (keep ko o) a w:=
 R.sub (fun _ _ h=>xr _ _ h) fun _ ob h=>⟨ob,xr _ _ h,rfl,rfl,rfl,rfl,fun h=>h⟩
theorem FZ(ids:List Nat)(o:List (Nat×Ob))(x:Nat):get (uz ids o) x=(get o x).map fun ob=>if x∈ids then {ob with w:=false} else ob:=by
 induction o with
 |nil=>rfl
 |cons p o ih=>
  obtain⟨k,ob⟩:=p;simp only[uz,bu,get] at ih ⊢;split
  ·rename_i e;subst e;rfl
  ·exact ih
theorem Rel.shut(R:Rel F Pr w0 lb N E n t o a w)(ids:List Nat):Rel F Pr w0 lb N E n t (uz ids o) a w:=by
 refine R.sub (fun _ _ h=>h) fun id ob' h=> ?_
 rw[FZ] at h;cases hg:get o id with
 |none=>simp[hg] at h
 |some ob=>
  simp only[hg,iF,aH] at h;subst h;refine⟨ob,rfl, ?_⟩;split<;>simp
end Mx
namespace Mx
open Go
def Kv:T→Value→Bool
 | .int k n,.int k' n'=>k==k'&&n==n'
 | .bool b,.bool b'=>b==b'
 | .str s,.string s'=>s.data.toList==s'.data.toList
 | .aL _,.slice none 0 0=>true
 |_,_=>false
def zd:List T→List Value→Bool
 |[],[]=>true
 |t::ts,v::vs=>Kv t v&&zd ts vs
 |_,_=>false
theorem CJ{X:Cx}{t:T}{v:Value}(h:Kv t v=true):j7 X t v:=by
 unfold Kv at h;split at h
 ·simp at h;obtain⟨rfl,rfl⟩:=h;exact .int _ _
 ·simp at h;subst h;exact .bool _
 ·rename_i s s';have:s=s':=by
   obtain⟨⟨x⟩⟩:=s;obtain⟨⟨y⟩⟩:=s';simp at h;subst h;rfl
  subst this;exact .str _
 ·exact .aL _
 ·cases h
theorem Bu{t:T}{v:Value}(h:Kv t v=true):ff t:=by
 unfold Kv at h;split at h
 ·exact .int _ _
 ·exact .bool _
 ·exact .str _
 ·exact .aL _
 ·cases h
theorem uY:∀{ts:List T} {vs:List Value},zd ts vs=true→∀(i:Nat) (t:T),ts[i]? =some t→ff t
 |[],_,_,i,t,h=>by simp at h
 |t0::ts,v::vs,h,i,t,hi=>by
  simp only[zd,aj] at h;cases i with
  |zero=>simp at hi;subst hi;exact Bu h.1
  |succ i=>exact uY h.2 i t (by simpa using hi)
 |_::_,[],h,_,_,_=>by simp[zd] at h
theorem zY{X:Cx}:∀{ts:List T} {vs:List Value},zd ts vs=true→g_ X ts vs
 |[],[],_=> .nil X
 |t::ts,v::vs,h=>by
  simp only[zd,aj] at h;exact .cons (CJ h.1) (zY h.2)
 |[],_::_,h=>by simp[zd] at h
 |_::_,[],h=>by simp[zd] at h
def m7(F:Nat→FuncId):O→Operand→Bool
 | .t n,.tmp m=>n==m
 | .k t,.const v=>Kv t v
 | .fn f,.func g=>F f==g
 |_,_=>false
def vW(F:Nat→FuncId):List O→List Operand→Bool
 |[],[]=>true
 |x::xs,y::ys=>m7 F x y&&vW F xs ys
 |_,_=>false
def ye(F:Nat→FuncId):Option O→Option Operand→Bool
 |none,none=>true
 |some x,some y=>m7 F x y
 |_,_=>false
theorem j7.oW{X:Cx}{k:IntKind}{n:Int}{v:Value}(h:j7 X (.int k n) v):v= .int k n:=by cases h;rfl
theorem j7.uf{X:Cx}{b:Bool}{v:Value}(h:j7 X (.bool b) v):v= .bool b:=by cases h;rfl
theorem j7.qy{X:Cx}{s:ByteArray}{v:Value}(h:j7 X (.str s) v):v= .string s:=by cases h;rfl
theorem kQ.xQ{X:Cx}{t:T}{v:Value}(h:kQ X (.c t) v):j7 X t v:=by cases h;assumption
variable {P:Program} {F:Nat→FuncId} {Pr:Nat→Prop} {w0:World} {lb:Lb} {N:Nat} {E:Nat→Option Loc} {n:Nat→Prop} {t:List (Nat×V)} {o:List (Nat×Ob)} {a:Act} {w:World}
theorem lC(R:Rel F Pr w0 lb N E n t o a w){x:O}{y:Operand}(h:m7 F x y=true){v:V}(hv:look t x=some v):kQ (cx F Pr E o w) v (a.eval y):=by
 unfold m7 at h;split at h
 ·simp at h;subst h;exact R.tmps _ _ hv
 ·simp only[look,aH] at hv;subst hv;exact .c _ _ (CJ h)
 ·simp at h;subst h;simp only[look,aH] at hv;subst hv;exact .c _ _ (.fn _ [] #[] rfl fun i t v ht=>by simp at ht)
 ·cases h
theorem fw(R:Rel F Pr w0 lb N E n t o a w){x:O}{y:Operand}(h:m7 F x y=true){v:T}(hv:jL t x=some v):j7 (cx F Pr E o w) v (a.eval y):=by
 unfold jL at hv;split at hv
 ·rename_i u hu;cases hv;exact(lC R h hu).xQ
 ·cases hv
theorem yJ(R:Rel F Pr w0 lb N E n t o a w){x:O}{y:Operand}(h:m7 F x y=true){k:IntKind}{i:Int}(hv:vt t x=some (k,i)):a.eval y= .int k i:=by
 unfold vt at hv;split at hv
 ·rename_i u hu;cases hv;exact(lC R h ‹_›).xQ.oW
 ·cases hv
theorem o7(R:Rel F Pr w0 lb N E n t o a w){x:O}{y:Operand}(h:m7 F x y=true){b:Bool}(hv:qa t x=some b):a.eval y= .bool b:=by
 unfold qa at hv;split at hv
 ·cases hv;exact(lC R h ‹_›).xQ.uf
 ·cases hv
theorem nP(R:Rel F Pr w0 lb N E n t o a w){x:O}{y:Operand}(h:m7 F x y=true){m:Nat}(hv:pn t x=some m):∃k,a.eval y= .int k (m:Int):=by
 unfold pn at hv;split at hv
 ·rename_i k i hu;split at hv
  ·cases hv;have:=(lC R h hu).xQ.oW;exact⟨k,by rw[this,Int.toNat_of_nonneg ‹_›]⟩
  ·cases hv
 ·cases hv
theorem o8(R:Rel F Pr w0 lb N E n t o a w){x:O}{y:Operand}(h:m7 F x y=true){ts:List T}(hv:qb t x=some ts):g_ (cx F Pr E o w) ts (a.eval y).cells.toList:=by
 unfold qb at hv;split at hv
 ·exact(lC R h ‹_›).cells hv
 ·cases hv
theorem Hu{op:BinOp}{x y r:T}(h:bin op x y=some r){X:Cx}{xt:TypeId}{vx vy:Value}(hx:j7 X x vx)(hy:j7 X y vy)(u v:Operand):
  ∃val,(do eqGuard op xt u v vx vy;binOp op xt vx vy:Sem Value).run P w= .ok val w∧j7 X r val:=by
 unfold bin at h;split at h
 ·rename_i k x k' y;cases hx;cases hy;have hg:(eqGuard op xt u v (.int k x) (.int k' y)).run P w= .ok () w:=by
   unfold eqGuard;split<;>simp
  simp only[Sem.run_bind,hg,Result.andThen_ok];split at h
  ·rename_i hs;unfold nA at h;split at h
   ·cases h
   ·rename_i hn;cases op<;>simp[wb] at hs<;>simp only[aH] at h<;>subst h<;>
     exact⟨_,by simp[binOp,Op.shift,hn],.int _ _⟩
  ·rename_i hs;split at h
   ·rename_i hk;subst hk;cases op<;>simp[wb] at hs<;>simp only[B8] at h<;>
     (try (split at h;·cases h))<;>first
     |(cases h;done)
     |(simp only[aH] at h;subst h
       first
       |(refine⟨_, ?_,.int _ _⟩;simp[binOp,Op.intArith];done)
       |(refine⟨_, ?_,.int _ _⟩;simp[binOp,Op.intDiv, *];done)
       |(refine⟨_, ?_,.int _ _⟩;simp only[binOp,ne_eq,not_true_eq_false,if_false,Op.intBits];rfl)
       |(refine⟨_, ?_,.bool _⟩;simp[binOp,Op.intCmp];done)
       |(refine⟨_, ?_,.bool _⟩;simp[binOp,Op.intCmp];rw[Bool.eq_iff_iff];simp;done))
   ·cases h
 ·rename_i x y;cases hx;cases hy;have hg:(eqGuard op xt u v (.string x) (.string y)).run P w= .ok () w:=by
   unfold eqGuard;split<;>simp
  have hb:∀a b,jH a b=Op.bytesLess a b:=by
   intro a
   induction a with
   |nil=>intro b;cases b<;>rfl
   |cons c a ih=>intro b;cases b with|nil=>rfl|cons d b=>simp[jH,Op.bytesLess,ih]
  simp only[Sem.run_bind,hg,Result.andThen_ok];cases op<;>simp only[kM] at h<;>first
   |(cases h;done)
   |(split at h
     ·rename_i hs;simp only[aH] at h;subst h;refine⟨_, ?_,.str _⟩;have:¬(((x.size+y.size:Nat):Int)>IntKind.i64.max):=by
       have:IntKind.i64.max=9223372036854775807:=by decide
       rw[this];omega
      simp only[binOp,Op.stringOp];rw[if_neg this];rfl
     ·cases h)
   |(simp only[aH] at h;subst h
     exact⟨_,by simp[binOp,Op.stringOp,hb],.bool _⟩)
 ·cases h
end Mx
namespace Mx
open Go
def oa(P:Program)(t:TypeId):Option Bool:=
 match P.underlying t with
 |some (.struct _)=>some true
 |some (.array _ _)=>some true
 |some _=>some false
 |none=>none
def ld(P:Program)(t:TypeId):Option Nat:=(P.info? t).map (·.size)
def pS(P:Program)(t:TypeId):Option Nat:=(P.info? t).map (·.bytes)
def rD(P:Program)(t:TypeId):Option Value:=(P.info? t).bind (·.zero)
variable {P:Program} {F:Nat→FuncId} {Pr:Nat→Prop} {w0:World} {lb:Lb} {N:Nat} {E:Nat→Option Loc} {n:Nat→Prop} {t:List (Nat×V)} {o:List (Nat×Ob)} {a:Act} {w:World}
theorem pU{t:TypeId}{i:TypeInfo}(h:P.info? t=some i)(w:World):(typeInfo t).run P w= .ok i w:=by simp[typeInfo,h]
theorem mO{t:TypeId}{b:Bool}(h:oa P t=some b)(w:World):(isAgg t).run P w= .ok b w:=by
 unfold oa at h;split at h<;>simp only[aH,reduceCtorEq] at h
 all_goals
  subst h;rename_i hu;simp[isAgg,run_underlying hu]
theorem iq{t:TypeId}{k:Nat}(h:ld P t=some k)(w:World):(Go.sizeOf t).run P w= .ok k w:=by
 unfold ld at h;cases hi:P.info? t with
 |none=>simp[hi] at h
 |some i=>simp[hi] at h;simp[Go.sizeOf,pU hi,h]
theorem mN{t:TypeId}{v:Value}(h:rD P t=some v)(w:World):(zeroValue t).run P w= .ok v w:=by
 unfold rD at h;cases hi:P.info? t with
 |none=>simp[hi] at h
 |some i=>simp[hi] at h;simp[zeroValue,pU hi,h]
theorem mC(R:Rel F Pr w0 lb N E n t o a w){id ct:Nat}{ob:Ob}(hg:get o id=some ob)(hv:ob.ct=ct){b cap sz:Nat}(hE:E ct=some (.kP b cap sz)):
  sz=ob.sz∧s5 (cx F Pr E o w) ob b cap:=by
 obtain⟨_,l,hl,hr⟩:=R.oc id ob hg;rw[hv,hE] at hl;cases hl;exact hr
theorem yG(R:Rel F Pr w0 lb N E n t o a w){x:T}{v:Value}(hx:j7 (cx F Pr E o w) x v){r:List T}{j:Nat}(hp:place o x=some (r,j)):
  ∃ad,v= .pointer (some ad)∧∀(q:Nat) (t:T),r[j+q]? =some t→∃u,w.cell? (ad.add q)=some u∧j7 (cx F Pr E o w) t u:=by
 unfold place at hp;split at hp
 ·rename_i id ct i jj;split at hp
  ·rename_i ob hg;split at hp
   ·rename_i hv;split at hp
    ·rename_i r' hr;simp only[aH,aR] at hp;obtain⟨rfl,rfl⟩:=hp;cases hx with
     |ptr _ _ _ _ b cap sz hE=>
      obtain⟨rfl,h1,h2,hcl,cs,e,fr,m1,m2,m3,m4⟩:=mC R hg hv hE;refine⟨_,rfl,fun q t ht=> ?_⟩;obtain⟨u,hu,hr2⟩:=m4 i (jj+q) r' t hr ht;refine⟨u, ?_,hr2⟩;rw[add_add,lz];have m1':w.heap[b]? =some (.cells cs e fr):=m1;rw[Nat.add_assoc];simp[World.cell?,m1',hu]
    ·cases hp
   ·cases hp
  ·cases hp
 ·rename_i cells jj;simp only[aH,aR] at hp;obtain⟨rfl,rfl⟩:=hp;cases hx with
  |vp _ _ ad vs hcell hrep hcl=>exact⟨ad,rfl,fun q t ht=>⟨vs q,(hcell q t ht).2,hrep q t ht⟩⟩
 ·cases hp
theorem zl{ty:TypeId}{ad:Addr}{cs:List Value}(ha:oa P ty=some true)(hs:ld P ty=some cs.length)
  (h:∀(q:Nat) (v:Value),cs[q]? =some v→w.cell? (ad.add q)=some v):(Instr.loadAt ty (.pointer (some ad))).run P w= .ok (.agg cs.toArray) w:=by
 simp only[Instr.loadAt,Instr.sureAddr,loadVar,Sem.run_bind,Sem.run_pure,Result.andThen_ok,mO ha,if_true,iq hs];rw[run_loadCells_list w ad cs h];simp
theorem zk{ty:TypeId}{ad:Addr}{v:Value}(ha:oa P ty=some false)(h:w.cell? ad=some v):(Instr.loadAt ty (.pointer (some ad))).run P w= .ok v w:=by
 simp[Instr.loadAt,Instr.sureAddr,loadVar,mO ha,h]
theorem yE{X:Cx}{r:List T}{j k:Nat}{ad:Addr}(h:∀(q:Nat) (t:T),r[j+q]? =some t→∃u,X.w.cell? (ad.add q)=some u∧j7 X t u)(hk:j+k≤r.length):
  ∃cs:List Value,cs.length=k∧g_ X ((r.drop j).take k) cs∧∀(q:Nat) (v:Value),cs[q]? =some v→X.w.cell? (ad.add q)=some v:=by
 induction k generalizing j ad r with
 |zero=>exact⟨[],rfl,by simpa using g_.nil X,fun q v hv=>by simp at hv⟩
 |succ k ih=>
  have hlt:j<r.length:=by omega
  obtain⟨u,hu,hr⟩:=h 0 r[j] (by simp[hlt]);have h':∀(q:Nat) (t:T),r[j+1+q]? =some t→∃u,X.w.cell? ((ad.add 1).add q)=some u∧j7 X t u:=by
   intro q t ht;obtain⟨u,hu,hr⟩:=h (1+q) t (by rw[←ht];congr 1;omega);exact⟨u,by rw[add_add];exact hu,hr⟩
  obtain⟨cs,hl,hrep,hc⟩:=ih h' (by omega);refine⟨u::cs,by simp[hl], ?_, ?_⟩
  ·rw[bA hlt,List.take_succ_cons];exact .cons hr hrep
  ·intro q v hv;cases q with
   |zero=>simp at hv;subst hv;exact hu
   |succ q=>
    simp at hv;have:=hc q v hv;rw[add_add] at this;rw[Nat.add_comm q 1];exact this
theorem ke{b:Nat}{e:TypeId}{fr:Nat×Nat}:∀(vs:List Value) (i off:Nat) (cs:Array Value) (w:World),w.heap[b]? =some (.cells cs e fr)→off+i+vs.length≤cs.size→
  (∀o,o≤cs.size→¬(fr.1≤o∧o<fr.2))→(∀v∈vs,v.oneCell'=true)→
  ∃w' cs',(storeCells ((gK b).add off) vs i).run P w= .ok () w'∧w'.os=w.os∧w'.tape=w.tape∧w'.output=w.output∧w'.heap.size=w.heap.size∧
   (∀k,k≠b→w'.heap[k]? =w.heap[k]?)∧w'.heap[b]? =some (.cells cs' e fr)∧cs'.size=cs.size∧
   ∀q,cs'[q]? =if off+i≤q∧q<off+i+vs.length then vs[q-(off+i)]? else cs[q]?
 |[],i,off,cs,w,hb,hl,hf,h1=>by
  refine⟨w,cs,by simp[storeCells],rfl,rfl,rfl,rfl,fun _ _=>rfl,hb,rfl,fun q=> ?_⟩;rw[if_neg (by simp)]
 |v::vs,i,off,cs,w,hb,hl,hf,h1=>by
  simp only[bV] at hl;have ha:((gK b).add off).add i=⟨b,off+i,none⟩:=by rw[add_add,lz]
  have hlt:off+i<cs.size:=by omega
  have hc:w.cell? ⟨b,off+i,none⟩=some cs[off+i]:=by simp[World.cell?,hb,hlt]
  have hfz:w.frozen? ⟨b,off+i,none⟩=false:=by
   have:=hf (off+i) (Nat.le_of_lt hlt);simp only[World.frozen?,hb];simp only[not_and] at this;simp only[Bool.and_eq_false_iff,decide_eq_false_iff_not];by_cases q:fr.1≤off+i
   ·exact .inr (this q)
   ·exact .inl q
  have hs:(store (((gK b).add off).add i) v).run P w= .ok () (w.setCell ⟨b,off+i,none⟩ v):=by
   rw[ha,run_store P w _ v .plain (h1 v (by simp)),hc];simp[hfz]
  have hb':(w.setCell ⟨b,off+i,none⟩ v).heap[b]? =some (.cells (cs.setIfInBounds (off+i) v) e fr):=by
   simp only[World.setCell,Array.getElem?_modify,hb];simp
  obtain⟨w',cs',g1,g2,g3,g4,g5,g6,g7,g8,g9⟩:=ke vs (i+1) off (cs.setIfInBounds (off+i) v) _ hb' (by simpa using(by omega)) (by simpa using hf) (fun u hu=>h1 u (by simp[hu]));refine⟨w',cs', ?_,g2,g3,g4,by rw[g5];simp, ?_,g7,by rw[g8];simp,fun q=> ?_⟩
  ·simp only[storeCells,Sem.run_bind,hs,Result.andThen_ok];exact g1
  ·intro k hk;rw[g6 k hk];simp only[World.setCell,Array.getElem?_modify];rw[if_neg (fun e=>hk e.symm)]
  ·rw[g9 q,Array.getElem?_setIfInBounds];by_cases r:off+(i+1)≤q∧q<off+(i+1)+vs.length
   ·rw[if_pos r,if_pos ⟨by omega,by simp only[bV];omega⟩];obtain⟨p,rfl⟩:∃p,q=off+i+(p+1):=⟨q-(off+i)-1,by omega⟩
    rw[show off+i+(p+1)-(off+i)=p+1 from by omega,show off+i+(p+1)-(off+(i+1))=p from by omega];simp
   ·rw[if_neg r];by_cases e:off+i=q
    ·subst e;rw[if_pos rfl,if_pos hlt,if_pos ⟨Nat.le_refl _,by simp⟩];simp
    ·rw[if_neg e,if_neg (by simp only[bV];omega)]
end Mx
namespace Mx
open Go
variable {P:Program} {F:Nat→FuncId} {Pr:Nat→Prop} {w0:World} {lb:Lb} {N:Nat} {E:Nat→Option Loc} {n:Nat→Prop} {t:List (Nat×V)} {o:List (Nat×Ob)} {a:Act} {w:World}
theorem py{sz:Nat}:∀{rows:List (List T)},(∀(i:Nat) (r:List T),rows[i]? =some r→r.length=sz)→∀{i j:Nat} {r:List T} {t:T},rows[i]? =some r→r[j]? =some t→rows.flatten[i*sz+j]? =some t
 |[],_,i,j,r,t,hr,_=>by simp at hr
 |r0::rows,hw,i,j,r,t,hr,ht=>by
  have h0:=hw 0 r0 (by simp);cases i with
  |zero=>
   simp at hr;subst hr;have:j<r0.length:=(List.getElem?_eq_some_iff.1 ht).1;simp only[List.flatten_cons,Nat.zero_mul,Nat.zero_add];rw[List.getElem?_append_left this];exact ht
  |succ i=>
   have ih:=py (rows:=rows) (fun i r h=>hw (i+1) r (by simpa using h)) (i:=i) (j:=j) (by simpa using hr) ht;simp only[List.flatten_cons];rw[List.getElem?_append_right (by rw[h0,Nat.succ_mul];omega),h0,←ih];congr 1;rw[Nat.succ_mul];omega
theorem lF{sz:Nat}:∀{rows:List (List T)},(∀(i:Nat) (r:List T),rows[i]? =some r→r.length=sz)→rows.flatten.length=rows.length*sz
 |[],_=>by simp
 |r0::rows,hw=>by
  have h0:=hw 0 r0 (by simp);have ih:=lF (rows:=rows) (fun i r h=>hw (i+1) r (by simpa using h));simp only[List.flatten_cons,aD,bV,ih,h0,Nat.succ_mul];omega
theorem sL{X:Cx}{ob:Ob}{b cap:Nat}{cl:List Value}{cs:Array Value}{e:TypeId}{fr:Nat×Nat}(hl:ob.rows.length≤cap)
  (hw:∀(i:Nat) (r:List T),ob.rows[i]? =some r→r.length=ob.sz) (hr:g_ X ob.rows.flatten cl) (hm:X.w.heap[b]? =some (.cells cs e fr)) (hs:cs.size=cap*ob.sz)
  (hf:∀o,o≤cs.size→¬(fr.1≤o∧o<fr.2)) (hp:∀(q:Nat) (v:Value),cl[q]? =some v→cs[q]? =some v)
  (hcl:ob.bx=false→∀(i j:Nat) (r:List T) (t:T),ob.rows[i]? =some r→r[j]? =some t→ff t):s5 X ob b cap:=by
 refine⟨hl,hw,hcl,cs,e,fr,hm,hs,hf,fun i j r t h1 h2=> ?_⟩;have h3:=py hw h1 h2;have hlt:i*ob.sz+j<cl.length:=by rw[←hr.1];exact(List.getElem?_eq_some_iff.1 h3).1
 exact⟨cl[i*ob.sz+j],hp _ _ (by simp[hlt]),hr.2 _ _ _ h3 (by simp[hlt])⟩
def E1(E:Nat→Option Loc)(ct:Nat)(l:Loc):Nat→Option Loc:=fun v=>if v=ct then some l else E v
theorem Du(E:Nat→Option Loc)(ct:Nat)(l:Loc):E1 E ct l ct=some l:=by simp[E1]
theorem zX{E:Nat→Option Loc}{n:Nat→Prop}{ct:Nat}{l:Loc}(hf:∀v l,E v=some l→n v)(hn:¬n ct):∀v l',E v=some l'→E1 E ct l v=some l':=by
 intro v l' h;have:=hf v l' h;have hne:¬v=ct:=by rintro rfl;exact hn this
 simp only[E1];rw[if_neg hne];exact h
theorem xZ{E:Nat→Option Loc}{n n':Nat→Prop}{ct:Nat}{l:Loc}(hf:∀v l,E v=some l→n v)(hn:∀k,n k→n' k)(hv:n' ct):∀v l',E1 E ct l v=some l'→n' v:=by
 intro v l' h;simp only[E1] at h;split at h
 ·rename_i e;rw[e];exact hv
 ·exact hn _ (hf v l' h)
theorem Rel.wZ(R:Rel F Pr w0 lb N E n t o a w){w':World}(id ct:Nat)(n':Nat→Prop)(ob:Ob)(hver:ob.ct=ct)(hn:Fr n ct n')(cl:List Value)(cs:Array Value)(e:TypeId)(fr:Nat×Nat)(cap:Nat)
  (h1:w'.os=w.os) (h2:w'.tape=w.tape) (h3:w'.output=w.output) (hh:w'.heap=w.heap.push (.cells cs e fr))
  (hl:ob.rows.length≤cap) (hw:∀(i:Nat) (r:List T),ob.rows[i]? =some r→r.length=ob.sz) (hr:g_ (cx F Pr E o w) ob.rows.flatten cl)
  (hs:cs.size=cap*ob.sz) (hf:∀o,o≤cs.size→¬(fr.1≤o∧o<fr.2)) (hp:∀(q:Nat) (v:Value),cl[q]? =some v→cs[q]? =some v)
  (hcl:ob.bx=false→∀(i j:Nat) (r:List T) (t:T),ob.rows[i]? =some r→r[j]? =some t→ff t):
  Rel F Pr w0 lb N (E1 E ct (.kP w.heap.size cap ob.sz)) n' t ((id,ob)::o) a w'∧mH (cx F Pr E o w) (cx F Pr (E1 E ct (.kP w.heap.size cap ob.sz)) ((id,ob)::o) w'):=by
 refine R.KW h1 h2 h3 (by rw[hh];simp) hn.mX (zX R.fresh (hn.new _ (Nat.le_refl _) (by omega))) (xZ R.fresh hn.mX (hn.add _ (Nat.le_refl _) (by omega))) ?_ (l':= .kP w.heap.size cap ob.sz) (by rw[hver,Du]) ?_ ?_
 ·intro b hb _;rw[hh,Array.getElem?_push];rw[if_neg (by omega)]
 ·intro b cap' sz' hq;cases hq;exact⟨by rw[hh];simp,.inl (Nat.le_refl _)⟩
 ·intro K;refine⟨rfl,sL hl hw (hr.mono K) (cs:=cs) (e:=e) (fr:=fr) ?_ hs hf hp hcl⟩;show w'.heap[w.heap.size]? =_;rw[hh];simp
theorem Rel.Fx(R:Rel F Pr w0 lb N E n t o a w)(id ct:Nat)(n':Nat→Prop)(ob:Ob)(hver:ob.ct=ct)(hn:Fr n ct n')(hr:ob.rows=[])(hb:ob.bx=false):
  Rel F Pr w0 lb N (E1 E ct .nil) n' t ((id,ob)::o) a w∧mH (cx F Pr E o w) (cx F Pr (E1 E ct .nil) ((id,ob)::o) w):=by
 refine R.KW rfl rfl rfl (Nat.le_refl _) hn.mX (zX R.fresh (hn.new _ (Nat.le_refl _) (by omega))) (xZ R.fresh hn.mX (hn.add _ (Nat.le_refl _) (by omega))) (fun b hb _=>rfl) (l':= .nil) (by rw[hver,Du]) (fun b cap sz h=>by cases h) (fun K=>⟨hr,hb⟩)
theorem uy{r xs:List T}{j:Nat}(h:j+xs.length≤r.length)(q:Nat):(setAt r j xs)[q]? =if j≤q∧q<j+xs.length then xs[q-j]? else r[q]? :=by
 unfold setAt;by_cases h1:q<j
 ·rw[if_neg (by omega),b4,List.getElem?_append_left (by simp;omega),b8,if_pos h1]
 ·by_cases h2:q<j+xs.length
  ·rw[if_pos ⟨by omega,h2⟩,List.getElem?_append_left (by simp;omega),List.getElem?_append_right (by simp;omega)];simp;rw[Nat.min_eq_left (by omega)]
  ·rw[if_neg (by omega),List.getElem?_append_right (by simp;omega),fK];congr 1;simp;omega
theorem qD{r xs:List T}{j:Nat}(h:j+xs.length≤r.length):(setAt r j xs).length=r.length:=by
 unfold setAt;simp;omega
theorem me{i i' sz j:Nat}(h:i'<i)(hj:j<sz):i'*sz+j<i*sz:=by
 have:(i'+1)*sz≤i*sz:=cn _ h;rw[Nat.add_mul,Nat.one_mul] at this;omega
theorem Rel.write(R:Rel F Pr w0 lb N E n t o a w){w':World}{id:Nat}{ob:Ob}{b cap i j:Nat}{r xs:List T}{vs:List Value}(hg:get o id=some ob)(hwr:ob.w=true)
  (hE:E ob.ct=some (.kP b cap ob.sz)) (hi:ob.rows[i]? =some r) (hj:j+xs.length≤r.length) (hx:g_ (cx F Pr E o w) xs vs)
  (hxc:ob.bx=false→∀(i:Nat) (t:T),xs[i]? =some t→ff t)
  (hrun:(storeCells ((gK b).add (i*ob.sz+j)) vs).run P w= .ok () w'):
  Rel F Pr w0 lb N E n t ((id,{ob with rows:=ob.rows.set i (setAt r j xs)})::o) a w'∧mH (cx F Pr E o w) (cx F Pr E ((id,{ob with rows:=ob.rows.set i (setAt r j xs)})::o) w'):=by
 obtain⟨_,hl,hwid,hcl,cs,e,fr,m1,m2,m3,m4⟩:=mC R hg rfl hE;have hrl:=hwid i r hi;have hil:i<ob.rows.length:=(List.getElem?_eq_some_iff.1 hi).1;have hfit:i*ob.sz+j+0+vs.length≤cs.size:=by
  rw[m2,←hx.1];have:(i+1)*ob.sz≤cap*ob.sz:=cn _ (by omega);rw[Nat.add_mul,Nat.one_mul] at this;omega
 have m1':w.heap[b]? =some (.cells cs e fr):=m1;obtain⟨w2,cs',g1,g2,g3,g4,g5,g6,g7,g8,g9⟩:=ke (P:=P) vs 0 (i*ob.sz+j) cs w m1' hfit m3 hx.one;rw[hrun] at g1;cases g1;have hbl:b<w.heap.size:=(R.place id ob b cap ob.sz hg hE).1;refine R.KW g2 g3 g4 (by omega) (fun _ h=>h) (fun _ _ h=>h) R.fresh ?_ (l':= .kP b cap ob.sz) hE ?_ ?_
 ·intro k hk hno;by_cases e:k=b
  ·subst e;exact(hno ob cap ob.sz hg hwr hE).elim
  ·exact g6 k e
 ·intro b' cap' sz' hq;cases hq;exact⟨by rw[g5];exact hbl,.inr ⟨ob,cap,ob.sz,hg,hwr,hE⟩⟩
 ·intro K;refine⟨rfl, ?_, ?_, ?_,cs',e,fr,g7,by rw[g8];exact m2,by rw[g8];exact m3, ?_⟩
  ·simpa using hl
  ·intro i' r' hr';simp only[List.getElem?_set] at hr';split at hr'
   ·rename_i q;subst q;cases hr';show (setAt r j xs).length=ob.sz;rw[qD hj];exact hrl
   ·exact hwid i' r' hr'
  ·intro hbx i' j' r' t' hr' ht';simp only[List.getElem?_set] at hr';split at hr'
   ·rename_i q;subst q;cases hr';rw[uy hj] at ht';split at ht'
    ·exact hxc hbx _ _ ht'
    ·exact hcl hbx i j' r t' hi ht'
   ·exact hcl hbx i' j' r' t' hr' ht'
  ·intro i' j' r' t' hr' ht';simp only[List.getElem?_set] at hr';simp only[Nat.add_zero] at g9;show ∃v,cs'[i'*ob.sz+j']? =some v∧_
   rw[g9];split at hr'
   ·rename_i q;subst q;cases hr';rw[uy hj] at ht';split at ht'
    ·rename_i hq;have hlt:j'-j<vs.length:=by rw[←hx.1];omega
     rw[if_pos (by rw[←hx.1];omega),show i*ob.sz+j'-(i*ob.sz+j)=j'-j from by omega];exact⟨vs[j'-j],by simp[hlt],(hx.2 _ _ _ ht' (by simp[hlt])).mono K⟩
    ·rename_i hq;rw[if_neg (by rw[←hx.1];omega)];obtain⟨v,hv,hrep⟩:=m4 i j' r t' hi ht';exact⟨v,hv,hrep.mono K⟩
   ·rename_i hne;have hw':=hwid i' r' hr';have hj':j'<ob.sz:=by rw[←hw'];exact(List.getElem?_eq_some_iff.1 ht').1
    have hx2:=hx.1;have:¬(i*ob.sz+j≤i'*ob.sz+j'∧i'*ob.sz+j'<i*ob.sz+j+vs.length):=by
     rcases Nat.lt_or_gt_of_ne hne with h|h
     ·have:=me (sz:=ob.sz) (j:=j+xs.length-1) h;by_cases hz:xs.length=0
      ·omega
      ·have:=this (by omega);omega
     ·have:=me (sz:=ob.sz) (j:=j') h hj';omega
    rw[if_neg this];obtain⟨v,hv,hrep⟩:=m4 i' j' r' t' hr' ht';exact⟨v,hv,hrep.mono K⟩
end Mx
namespace Mx
open Go
def xh(P:Program)(t:TypeId)(k:IntKind):Bool:=match P.underlying t with|some (.int k')=>k==k'|_=>false
def rL(P:Program)(t:TypeId):Bool:=match P.underlying t with|some .string=>true|_=>false
def we(P:Program)(t:TypeId):Bool:=match P.underlying t with|some .bool=>true|_=>false
def iH(P:Program)(t:TypeId):Option TypeId:=match P.underlying t with|some (.slice e)=>some e|_=>none
def pI(P:Program)(t:TypeId):Option (Array Field):=match P.underlying t with|some (.struct fs)=>some fs|_=>none
theorem wc{P:Program}{t:TypeId}{k:IntKind}(h:xh P t k=true):P.underlying t=some (.int k):=by
 unfold xh at h;split at h
 ·simp at h;subst h;assumption
 ·cases h
theorem sq{P:Program}{t:TypeId}(h:rL P t=true):P.underlying t=some .string:=by
 unfold rL at h;split at h
 ·assumption
 ·cases h
theorem xi{P:Program}{t:TypeId}(h:we P t=true):P.underlying t=some .bool:=by
 unfold we at h;split at h
 ·assumption
 ·cases h
theorem jX{P:Program}{t e:TypeId}(h:iH P t=some e):P.underlying t=some (.slice e):=by
 unfold iH at h;split at h
 ·cases h;assumption
 ·cases h
theorem pZ{P:Program}{t:TypeId}{fs:Array Field}(h:pI P t=some fs):P.underlying t=some (.struct fs):=by
 unfold pI at h;split at h
 ·cases h;assumption
 ·cases h
def wm(P:Program)(zero:List T)(t:TypeId):Bool:=match rD P t with|some v=>zd zero v.cells.toList&&(ld P t==some zero.length)|none=>false
def placesOf(P:Program)(fs:Array Field):Option (List (Nat×Nat)):=fs.toList.mapM (fun f=>(P.info? f.type).map fun i=>(f.offset,i.size))
def sj(F:Nat→FuncId)(places:List (Nat×Nat)):List (Nat×Nat×O)→List (Nat×Operand)→Bool
 |[],[]=>true
 |(off,size,x)::ps,(i,y)::qs=>(places[i]? ==some (off,size))&&m7 F x y&&sj F places ps qs
 |_,_=>false
def qI(F:Nat→FuncId):List (Nat×O)→List (Nat×Operand)→Bool
 |[],[]=>true
 |(i,x)::ps,(j,y)::qs=>(i==j)&&m7 F x y&&qI F ps qs
 |_,_=>false
def gF(P:Program)(F:Nat→FuncId):MO→Op→Bool
 | .mv x,.move y=>m7 F x y
 | .mv x,.assign y=>m7 F x y
 | .np,.assign (.const (.pointer none))=>true
 | .nil _,.assign (.const (.slice none 0 0))=>true
 | .nil _,.move (.const (.slice none 0 0))=>true
 | .pick c a b,.pick c' a' b'=>m7 F c c'&&m7 F a a'&&m7 F b b'
 | .alloc zero,.alloc e=>wm P zero e
 | .box x,.box _ y=>m7 F x y
 | .build zero parts,.build t ps=>
   match pI P t with
   |some fs=>(match placesOf P fs with|some places=>wm P zero t&&sj F places parts ps.toList|none=>false)
   |none=>false
 | .bF sz len zero parts,.buildSlice t len' ps=>
   match iH P t with
   |some e=>(ld P e==some sz)&&(len==len')&&decide (0<sz)&&decide (len*sz≤16777216)&&wm P zero e&&qI F parts ps.toList
   |none=>false
 | .A3 sz len zero parts,.buildSlice t len' ps=>
   match iH P t with
   |some e=>(ld P e==some sz)&&(len==len')&&decide (0<sz)&&decide (len*sz≤16777216)&&wm P zero e&&qI F parts ps.toList
   |none=>false
 | .load agg k x,.load t y=>m7 F x y&&(oa P t==some agg)&&(ld P t==some k)
 | .store k x y,.store t x' y'=>m7 F x x'&&m7 F y y'&&(ld P t==some k)
 | .bin op x y,.binOp op' _ x' y' _=>(op==op')&&m7 F x x'&&m7 F y y'
 | .beq neg x y,.binOp op t x' y' _=>(op==if neg then .neq else .eql)&&we P t&&m7 F x x'&&m7 F y y'
 | .not x,.unOp .not _ y=>m7 F x y
 | .neg x,.unOp .neg _ y=>m7 F x y
 | .ry k x,.convert s d y=>xh P d k&&(P.underlying s).isSome&&m7 F x y
 | .EI x,.convert s d y=>(match iH P s with|some e=>xh P e .u8&&(ld P e==some 1)|none=>false)&&rL P d&&m7 F x y
 | .EE sz bytes zero x,.makeSlice t l c=>
   match iH P t with
   |some e=>(ld P e==some sz)&&decide (0<sz)&&(pS P e==some bytes)&&wm P zero e&&m7 F x l&&m7 F x c
   |none=>false
 | .KI sz bytes zero x y,.makeSlice t l c=>
   match iH P t with
   |some e=>(ld P e==some sz)&&decide (0<sz)&&(pS P e==some bytes)&&wm P zero e&&m7 F x l&&m7 F y c
   |none=>false
 | .oB x lo hi,.slice t y lo' hi' none=>rL P t&&m7 F x y&&ye F lo lo'&&ye F hi hi'
 | .wL sz x lo hi mx,.slice t y lo' hi' mx'=>
   match iH P t with
   |some e=>(ld P e==some sz)&&m7 F x y&&ye F lo lo'&&ye F hi hi'&&ye F mx mx'&&(mx.isNone||hi.isSome)
   |none=>false
 | .yc sz x lo hi,.slice t y lo' hi' none=>
   match iH P t with
   |some e=>(ld P e==some sz)&&m7 F x y&&ye F lo lo'&&ye F hi hi'
   |none=>false
 | .bN off x,.fieldAddr s y f=>
   match pI P s with
   |some fs=>(match fs[f]? with|some fd=>(fd.offset==off)&&(match ld P fd.type with|some k=>k !=0|none=>false)&&m7 F x y|none=>false)
   |none=>false
 | .kG sz x ix,.indexAddr t y iy=>
   match iH P t with
   |some e=>(ld P e==some sz)&&decide (0<sz)&&m7 F x y&&m7 F ix iy
   |none=>false
 | .idx x ix,.index t y iy=>rL P t&&m7 F x y&&m7 F ix iy
 | .Ir agg off k x,.field t y f=>
   match pI P t with
   |some fs=>(match fs[f]? with|some fd=>(fd.offset==off)&&(oa P fd.type==some agg)&&(ld P fd.type==some k)&&m7 F x y|none=>false)
   |none=>false
 | .ext i x,.extract y j=>(i==j)&&m7 F x y
 | .tL f caps,.makeFunc (.func g) first captured=>(F f==g)&&first.isEmpty&&vW F caps captured.toList
 | .lq x,.nilCheck y=>m7 F x y
 |_,_=>false
def okB(P:Program)(F:Nat→FuncId):MO→Builtin→List Operand→List TypeId→Bool
 | .len x,.len,[y],[ty]=>m7 F x y&&(iH P ty).isSome
 | .ky x,.len,[y],[ty]=>m7 F x y&&rL P ty
 | .app sz bytes x y,.append,[x',y'],[t,u]=>
   match iH P t with
   |some e=>(ld P e==some sz)&&decide (0<sz)&&(pS P e==some bytes)&&(match P.underlying u with|some (.int _)=>false|some _=>true|none=>false)&&m7 F x x'&&m7 F y y'&&(match rD P e with|some v=>v.cells.size==sz|none=>false)
   |none=>false
 | .yk sz bytes x y,.append,[x',y'],[t,u]=>
   match iH P t with
   |some e=>(ld P e==some sz)&&decide (0<sz)&&(pS P e==some bytes)&&(match P.underlying u with|some (.int _)=>false|some _=>true|none=>false)&&m7 F x x'&&m7 F y y'&&(match rD P e with|some v=>v.cells.size==sz|none=>false)
   |none=>false
 | .EH zero x,.clear,[y],[t]=>match iH P t with|some e=>wm P zero e&&decide (0<zero.length)&&m7 F x y|none=>false
 | .max x y,.max,[x',y'],_=>m7 F x x'&&m7 F y y'
 | .min x y,.min,[x',y'],_=>m7 F x x'&&m7 F y y'
 |_,_,_,_=>false
theorem HE{P:Program}{F:Nat→FuncId}{x:O}{b:Builtin}{as:List Operand}{ats:List TypeId}(h:okB P F (.len x) b as ats=true):
  ∃y ty,b= .len∧as=[y]∧ats=[ty]∧m7 F x y=true∧∃e,iH P ty=some e:=by
 cases b<;>first|(simp[okB] at h;done)|skip
 rcases as with _|⟨y,_|⟨z,as⟩⟩<;>first|(simp[okB] at h;done)|skip
 rcases ats with _|⟨ty,_|⟨z,ats⟩⟩<;>first|(simp[okB] at h;done)|skip
 simp only[okB,aj,Option.isSome_iff_exists] at h;exact⟨y,ty,rfl,rfl,rfl,h.1,h.2⟩
theorem Fu{P:Program}{F:Nat→FuncId}{x:O}{b:Builtin}{as:List Operand}{ats:List TypeId}(h:okB P F (.ky x) b as ats=true):
  ∃y ty,b= .len∧as=[y]∧ats=[ty]∧m7 F x y=true∧rL P ty=true:=by
 cases b<;>first|(simp[okB] at h;done)|skip
 rcases as with _|⟨y,_|⟨z,as⟩⟩<;>first|(simp[okB] at h;done)|skip
 rcases ats with _|⟨ty,_|⟨z,ats⟩⟩<;>first|(simp[okB] at h;done)|skip
 simp only[okB,aj] at h;exact⟨y,ty,rfl,rfl,rfl,h.1,h.2⟩
theorem C1{P:Program}{F:Nat→FuncId}{sz bytes:Nat}{x y:O}{b:Builtin}{as:List Operand}{ats:List TypeId}(h:okB P F (.app sz bytes x y) b as ats=true):
  ∃x' y' ty u e d,b= .append∧as=[x',y']∧ats=[ty,u]∧m7 F x x'=true∧m7 F y y'=true∧iH P ty=some e∧ld P e=some sz∧0<sz∧pS P e=some bytes∧
   P.underlying u=some d∧(∀k,d≠.int k)∧∃zv,rD P e=some zv∧zv.cells.size=sz:=by
 cases b<;>first|(simp[okB] at h;done)|skip
 rcases as with _|⟨x',_|⟨y',_|⟨z,as⟩⟩⟩<;>first|(simp[okB] at h;done)|skip
 rcases ats with _|⟨ty,_|⟨u,_|⟨z,ats⟩⟩⟩<;>first|(simp[okB] at h;done)|skip
 simp only[okB] at h;split at h
 ·rename_i e he;simp only[aj,beq_iff_eq,decide_eq_true_eq] at h;obtain⟨⟨⟨⟨⟨⟨h1,h2⟩,h3⟩,h4⟩,h5⟩,h6⟩,h7⟩:=h;split at h7
  ·rename_i zv hzv;split at h4
   ·cases h4
   ·rename_i d hd1 hd2;exact⟨x',y',ty,u,e,d,rfl,rfl,rfl,h5,h6,he,h1,h2,h3,hd2,fun k hk=>hd1 k hk,zv,hzv,by simpa using h7⟩
   ·cases h4
  ·cases h7
 ·cases h
theorem Fv{P:Program}{F:Nat→FuncId}{sz bytes:Nat}{x y:O}{b:Builtin}{as:List Operand}{ats:List TypeId}:okB P F (.yk sz bytes x y) b as ats=okB P F (.app sz bytes x y) b as ats:=by
 cases b<;>first|(simp[okB];done)|skip
 rcases as with _|⟨x',_|⟨y',_|⟨z,as⟩⟩⟩<;>first|(simp[okB];done)|skip
 rcases ats with _|⟨ty,_|⟨u,_|⟨z,ats⟩⟩⟩<;>simp only[okB]
theorem HF{P:Program}{F:Nat→FuncId}{zero:List T}{x:O}{b:Builtin}{as:List Operand}{ats:List TypeId}(h:okB P F (.EH zero x) b as ats=true):
  ∃y ty e,b= .clear∧as=[y]∧ats=[ty]∧m7 F x y=true∧iH P ty=some e∧wm P zero e=true∧0<zero.length:=by
 cases b<;>first|(simp[okB] at h;done)|skip
 rcases as with _|⟨y,_|⟨z,as⟩⟩<;>first|(simp[okB] at h;done)|skip
 rcases ats with _|⟨ty,_|⟨z,ats⟩⟩<;>first|(simp[okB] at h;done)|skip
 simp only[okB] at h;split at h
 ·rename_i e he;simp only[aj,decide_eq_true_eq] at h;exact⟨y,ty,e,rfl,rfl,rfl,h.2,he,h.1.1,h.1.2⟩
 ·cases h
theorem HD{P:Program}{F:Nat→FuncId}{x y:O}{b:Builtin}{as:List Operand}{ats:List TypeId}(h:okB P F (.max x y) b as ats=true):
  ∃x' y',b= .max∧as=[x',y']∧m7 F x x'=true∧m7 F y y'=true:=by
 cases b<;>first|(simp[okB] at h;done)|skip
 rcases as with _|⟨x',_|⟨y',_|⟨z,as⟩⟩⟩<;>first|(simp[okB] at h;done)|skip
 simp only[okB,aj] at h;exact⟨x',y',rfl,rfl,h.1,h.2⟩
theorem HC{P:Program}{F:Nat→FuncId}{x y:O}{b:Builtin}{as:List Operand}{ats:List TypeId}(h:okB P F (.min x y) b as ats=true):
  ∃x' y',b= .min∧as=[x',y']∧m7 F x x'=true∧m7 F y y'=true:=by
 cases b<;>first|(simp[okB] at h;done)|skip
 rcases as with _|⟨x',_|⟨y',_|⟨z,as⟩⟩⟩<;>first|(simp[okB] at h;done)|skip
 simp only[okB,aj] at h;exact⟨x',y',rfl,rfl,h.1,h.2⟩
def yf(P:Program)(F:Nat→FuncId)(f:Nat):Bool:=match P.funcs[F f]? with|some fn=>(fn.name != "runtime.NumGoroutine")&&fn.body.isSome|none=>false
def sP(P:Program)(F:Nat→FuncId)(m:MO)(c:Call):Bool:=
 match c.callee with
 | .builtin b=>okB P F m b c.args.toList c.argTypes.toList
 | .value f=>
   match m with
   | .call g as _ _=>m7 F (.fn g) f&&vW F as c.args.toList
   | .oO x as=>m7 F x f&&vW F as c.args.toList
   |_=>false
 |_=>false
variable {P:Program} {F:Nat→FuncId} {Pr:Nat→Prop} {w0:World} {lb:Lb} {N:Nat} {E:Nat→Option Loc} {n:Nat→Prop} {t:List (Nat×V)} {o:List (Nat×Ob)} {a:Act} {w:World}
def Np(P:Program)(oper:Oper)(a:Act)(w:World)(val:Value)(w':World):Prop:=
 (execOp a.eval oper).run P w= .ok (.value val) w'∨((execOp a.eval oper).run P w= .ok .skip w'∧val=undef)
def qv(P:Program)(F:Nat→FuncId)(Pr:Nat→Prop)(w0:World)(lb:Lb)(N:Nat)(n':Nat→Prop)(t:List (Nat×V))(o:List (Nat×Ob))(a:Act)(w:World)(oper:Oper)(v:V)(gf:List (Nat×Ob)):Prop:=
 ∃val w' E',Np P oper a w val w'∧Rel F Pr w0 lb N E' n' t (gf++o) a w'∧kQ (cx F Pr E' (gf++o) w') v val
theorem dz(R:Rel F Pr w0 lb N E n t o a w){n':Nat→Prop}(hn:∀k,n k→n' k){oper:Oper}{v:V}{val:Value}(hr:(execOp a.eval oper).run P w= .ok (.value val) w)(hv:kQ (cx F Pr E o w) v val):
  qv P F Pr w0 lb N n' t o a w oper v []:=⟨val,w,E,.inl hr,R.same rfl rfl rfl rfl hn,hv⟩
theorem oA{X:Cx}{zero:List T}{ty:TypeId}(h:wm P zero ty=true):∃v,rD P ty=some v∧g_ X zero v.cells.toList∧ld P ty=some zero.length∧∀(i:Nat) (t:T),zero[i]? =some t→ff t:=by
 unfold wm at h;split at h
 ·rename_i v hv;simp at h;exact⟨v,hv,zY h.1,h.2,uY h.1⟩
 ·cases h
theorem HA{r:List T}:∀(i:Nat) (r':List T),[r][i]? =some r'→r'.length=r.length:=by
 intro i r' h;cases i with
 |zero=>simp at h;subst h;rfl
 |succ i=>simp at h
theorem Df(R:Rel F Pr w0 lb N E n t o a w){nn:Nat}{n':Nat→Prop}(hn:Fr n nn n'){oper:Oper}{d:Nat}{cs:List T}{cells:Array Value}{e:TypeId}(hc:g_ (cx F Pr E o w) cs cells.toList)
  (hr:(execOp a.eval oper).run P w= .ok (.value (.pointer (some (gK w.heap.size)))) {w with heap:=w.heap.push (.cells cells e)}):
  qv P F Pr w0 lb N n' t o a w oper (.c (.ptr d nn 0 0)) [(d,{ct:=nn,sz:=cs.length,w:=true,bx:=true,rows:=[cs]})]:=by
 have hsz:cells.size=cs.length:=by have:=hc.1;simpa using this.symm
 obtain⟨R2,K⟩:=R.wZ d nn n' {ct:=nn,sz:=cs.length,w:=true,bx:=true,rows:=[cs]} rfl hn cells.toList cells e (0,0) 1 (w':={w with heap:=w.heap.push (.cells cells e)}) rfl rfl rfl rfl
  (by simp) HA (by simpa using hc) (by simp[hsz]) (by simp) (by intro q v h;simpa using h) (by simp)
 refine⟨_,_,_,.inl hr,R2,.c _ _ ?_⟩;have:=j7.ptr (X:=cx F Pr (E1 E nn (.kP w.heap.size 1 cs.length)) ([(d,{ct:=nn,sz:=cs.length,w:=true,bx:=true,rows:=[cs]})]++o) {w with heap:=w.heap.push (.cells cells e)}) d nn 0 0 w.heap.size 1 cs.length (by simp[cx,E1])
 simpa [Addr.add] using this
theorem Kq(R:Rel F Pr w0 lb N E n t o a w){nn:Nat}{n':Nat→Prop}(hn:Fr n nn n'){cf:cI}{d:Nat}{x:O}{oper:Oper}(hok:gF P F (.mv x) oper.op=true){v:V}{gf:List (Nat×Ob)}
  (h:act cf nn d t o (.mv x)=some (v,gf)):qv P F Pr w0 lb N n' t o a w oper v gf:=by
 simp only[act,al,aR] at h;obtain⟨u,hu,rfl,rfl⟩:=h;cases hop:oper.op with
 |move y=>rw[hop] at hok;exact dz R hn.mX (by simp[execOp,hop]) (lC R hok hu)
 |assign y=>rw[hop] at hok;exact dz R hn.mX (by simp[execOp,hop]) (lC R hok hu)
 |_=>rw[hop] at hok;simp[gF] at hok
theorem Kp(R:Rel F Pr w0 lb N E n t o a w){nn:Nat}{n':Nat→Prop}(hn:Fr n nn n'){cf:cI}{d:Nat}{oper:Oper}(hok:gF P F .np oper.op=true){v:V}{gf:List (Nat×Ob)}
  (h:act cf nn d t o .np=some (v,gf)):qv P F Pr w0 lb N n' t o a w oper v gf:=by
 simp only[act,aH,aR] at h;obtain⟨rfl,rfl⟩:=h;unfold gF at hok;split at hok<;>first|(cases hok;done)|skip
 all_goals first|(exact dz R hn.mX (val:= .pointer none) (by simp_all[execOp,Act.eval]) (.undef _ (by intro b h;cases h)))|simp_all
theorem IS(R:Rel F Pr w0 lb N E n t o a w){nn:Nat}{n':Nat→Prop}(hn:Fr n nn n'){cf:cI}{d sz:Nat}{oper:Oper}(hok:gF P F (.nil sz) oper.op=true){v:V}{gf:List (Nat×Ob)}
  (h:act cf nn d t o (.nil sz)=some (v,gf)):qv P F Pr w0 lb N n' t o a w oper v gf:=by
 simp only[act,aH,aR] at h;obtain⟨rfl,rfl⟩:=h;have hr:(execOp a.eval oper).run P w= .ok (.value (.slice none 0 0)) w:=by
  unfold gF at hok;split at hok<;>first|(cases hok;done)|simp_all[execOp,Act.eval]
 obtain⟨R2,K⟩:=R.Fx d nn n' {ct:=nn,sz:=sz,w:=true,bx:=false,rows:=[]} rfl hn rfl rfl;exact⟨_,_,_,.inl hr,R2,.c _ _ (.oi d nn (by simp[cx,E1]))⟩
theorem GB(R:Rel F Pr w0 lb N E n t o a w){nn:Nat}{n':Nat→Prop}(hn:Fr n nn n'){cf:cI}{d:Nat}{c x y:O}{oper:Oper}(hok:gF P F (.pick c x y) oper.op=true){v:V}{gf:List (Nat×Ob)}
  (h:act cf nn d t o (.pick c x y)=some (v,gf)):qv P F Pr w0 lb N n' t o a w oper v gf:=by
 simp only[act] at h;split at h
 ·rename_i b hb;simp only[al,aR] at h;obtain⟨u,hu,rfl,rfl⟩:=h;cases hop:oper.op with
  |pick c' x' y'=>
   rw[hop] at hok;simp only[gF,aj] at hok;refine dz R hn.mX (val:=if b then a.eval x' else a.eval y') ?_ ?_
   ·simp[execOp,hop,o7 R hok.1.1 hb,asBool]
   ·cases b
    ·exact lC R hok.2 hu
    ·exact lC R hok.1.2 hu
  |_=>rw[hop] at hok;simp[gF] at hok
 ·cases h
theorem Et(R:Rel F Pr w0 lb N E n t o a w){nn:Nat}{n':Nat→Prop}(hn:Fr n nn n'){cf:cI}{d:Nat}{zero:List T}{oper:Oper}(hok:gF P F (.alloc zero) oper.op=true){v:V}{gf:List (Nat×Ob)}
  (h:act cf nn d t o (.alloc zero)=some (v,gf)):qv P F Pr w0 lb N n' t o a w oper v gf:=by
 simp only[act,aH,aR] at h;obtain⟨rfl,rfl⟩:=h;cases hop:oper.op with
 |alloc e=>
  rw[hop] at hok;obtain⟨v,hv,hrep,_⟩:=oA (P:=P) (X:=cx F Pr E o w) hok;exact Df R hn hrep (e:=e) (by simp[execOp,hop,Instr.alloc,mN hv,newVar,newRow,gK])
 |_=>rw[hop] at hok;simp[gF] at hok
theorem I4(R:Rel F Pr w0 lb N E n t o a w){nn:Nat}{n':Nat→Prop}(hn:Fr n nn n'){cf:cI}{d:Nat}{x:O}{oper:Oper}(hok:gF P F (.box x) oper.op=true){v:V}{gf:List (Nat×Ob)}
  (h:act cf nn d t o (.box x)=some (v,gf)):qv P F Pr w0 lb N n' t o a w oper v gf:=by
 simp only[act,al,aR] at h;obtain⟨cs,hcs,rfl,rfl⟩:=h;cases hop:oper.op with
 |box e y=>
  rw[hop] at hok;exact Df R hn (o8 R hok hcs) (e:=e) (by simp[execOp,hop,Instr.box,newVar,newRow,gK])
 |_=>rw[hop] at hok;simp[gF] at hok
theorem GG(R:Rel F Pr w0 lb N E n t o a w){nn:Nat}{n':Nat→Prop}(hn:Fr n nn n'){cf:cI}{d k:Nat}{agg:Bool}{x:O}{oper:Oper}(hok:gF P F (.load agg k x) oper.op=true){v:V}{gf:List (Nat×Ob)}
  (h:act cf nn d t o (.load agg k x)=some (v,gf)):qv P F Pr w0 lb N n' t o a w oper v gf:=by
 cases hop:oper.op with
 |load ty y=>
  rw[hop] at hok;simp only[gF,aj,beq_iff_eq] at hok;simp only[act] at h;split at h
  ·cases h
  ·rename_i p hp;split at h
   ·cases h
   ·rename_i r j hpl;obtain⟨ad,had,hcell⟩:=yG R (fw R hok.1.1 hp) hpl;split at h
    ·rename_i hagg;split at h
     ·rename_i hjk;cases h;obtain⟨cs,hlen,hrep,hc⟩:=yE (X:=cx F Pr E o w) hcell hjk;refine dz R hn.mX (val:= .agg cs.toArray) ?_ (kQ.KB hrep);have hl:=zl (P:=P) (w:=w) (ty:=ty) (by rw[hok.1.2,hagg]) (by rw[hok.2,hlen]) hc;simp only[execOp,hop,had,Sem.run_bind,hl];rfl
     ·cases h
    ·rename_i hagg;simp only[al,aR] at h;obtain⟨c,hc,rfl,rfl⟩:=h;obtain⟨u,hu,hrep⟩:=hcell 0 c (by simpa using hc);rw[add_zero] at hu;refine dz R hn.mX (val:=u) ?_ (.c _ _ hrep);have hl:=zk (P:=P) (w:=w) (ty:=ty) (by rw[hok.1.2];cases agg<;>simp_all) hu;simp only[execOp,hop,had,Sem.run_bind,hl];rfl
 |_=>rw[hop] at hok;simp[gF] at hok
theorem I5(R:Rel F Pr w0 lb N E n t o a w){nn:Nat}{n':Nat→Prop}(hn:Fr n nn n'){cf:cI}{d:Nat}{op:BinOp}{x y:O}{oper:Oper}(hok:gF P F (.bin op x y) oper.op=true){v:V}{gf:List (Nat×Ob)}
  (h:act cf nn d t o (.bin op x y)=some (v,gf)):qv P F Pr w0 lb N n' t o a w oper v gf:=by
 cases hop:oper.op with
 |binOp op' ty x' y' ty'=>
  rw[hop] at hok;simp only[gF,aj,beq_iff_eq] at hok;obtain⟨⟨rfl,hx⟩,hy⟩:=hok;simp only[act] at h;split at h
  ·rename_i p q hp hq;simp only[al,aR] at h;obtain⟨r,hr,rfl,rfl⟩:=h;obtain⟨val,hrun,hrep⟩:=Hu (P:=P) (w:=w) hr (fw R hx hp) (fw R hy hq) (xt:=ty) x' y';refine dz R hn.mX (val:=val) ?_ (.c _ _ hrep);simp only[execOp,hop,Sem.run_bind] at hrun ⊢;rw[hrun];rfl
  ·cases h
 |_=>rw[hop] at hok;simp[gF] at hok
theorem run_equalIn_bool{ty:TypeId}(hb:P.underlying ty=some .bool)(d:Nat)(x y:Bool):(Op.equalIn (d+1) ty (.bool x) (.bool y)).run P w= .ok (x==y) w:=by
 simp[Op.equalIn,run_underlying hb]
theorem run_equal_bool{ty:TypeId}(hb:P.underlying ty=some .bool)(x y:Bool):(Op.equal ty (.bool x) (.bool y)).run P w= .ok (x==y) w:=run_equalIn_bool hb 9999 x y
theorem I6(R:Rel F Pr w0 lb N E n t o a w){nn:Nat}{n':Nat→Prop}(hn:Fr n nn n'){cf:cI}{d:Nat}{neg:Bool}{x y:O}{oper:Oper}(hok:gF P F (.beq neg x y) oper.op=true){v:V}{gf:List (Nat×Ob)}
  (h:act cf nn d t o (.beq neg x y)=some (v,gf)):qv P F Pr w0 lb N n' t o a w oper v gf:=by
 cases hop:oper.op with
 |binOp op' ty x' y' ty'=>
  rw[hop] at hok;simp only[gF,aj,beq_iff_eq] at hok;obtain⟨⟨⟨rfl,hb⟩,hx⟩,hy⟩:=hok;simp only[act] at h;split at h
  ·rename_i p q hp hq;simp only[aH,aR] at h;obtain⟨rfl,rfl⟩:=h;refine dz R hn.mX (val:= .bool (if neg then !(p==q) else p==q)) ?_ (.c _ _ (.bool _));have he:=run_equal_bool (P:=P) (w:=w) (xi hb) p q;have hg:∀op,(eqGuard op ty x' y' (.bool p) (.bool q)).run P w= .ok () w:=by intro op;unfold eqGuard;split<;>simp
   cases neg<;>simp only[execOp,hop,o7 R hx hp,o7 R hy hq,Sem.run_bind,hg,Result.andThen_ok,binOp,he,aB,if_true,if_false]<;>rfl
  ·cases h
 |_=>rw[hop] at hok;simp[gF] at hok
theorem IQ(R:Rel F Pr w0 lb N E n t o a w){nn:Nat}{n':Nat→Prop}(hn:Fr n nn n'){cf:cI}{d:Nat}{x:O}{oper:Oper}(hok:gF P F (.not x) oper.op=true){v:V}{gf:List (Nat×Ob)}
  (h:act cf nn d t o (.not x)=some (v,gf)):qv P F Pr w0 lb N n' t o a w oper v gf:=by
 simp only[act,al,aR] at h;obtain⟨b,hb,rfl,rfl⟩:=h;cases hop:oper.op with
 |unOp u ty y=>
  rw[hop] at hok;cases u<;>simp only[gF,aB] at hok
  exact dz R hn.mX (val:= .bool !b) (by simp[execOp,hop,o7 R hok hb,Op.unary]) (.c _ _ (.bool _))
 |_=>rw[hop] at hok;simp[gF] at hok
theorem IT(R:Rel F Pr w0 lb N E n t o a w){nn:Nat}{n':Nat→Prop}(hn:Fr n nn n'){cf:cI}{d:Nat}{x:O}{oper:Oper}(hok:gF P F (.neg x) oper.op=true){v:V}{gf:List (Nat×Ob)}
  (h:act cf nn d t o (.neg x)=some (v,gf)):qv P F Pr w0 lb N n' t o a w oper v gf:=by
 simp only[act,al,aR] at h;obtain⟨⟨k,i⟩,hb,rfl,rfl⟩:=h;cases hop:oper.op with
 |unOp u ty y=>
  rw[hop] at hok;cases u<;>simp only[gF,aB] at hok
  exact dz R hn.mX (val:= .int k (k.wrap (0-i))) (by simp[execOp,hop,yJ R hok hb,Op.unary,Op.intArith]) (.c _ _ (.int _ _))
 |_=>rw[hop] at hok;simp[gF] at hok
theorem I0(R:Rel F Pr w0 lb N E n t o a w){nn:Nat}{n':Nat→Prop}(hn:Fr n nn n'){cf:cI}{d:Nat}{k:IntKind}{x:O}{oper:Oper}(hok:gF P F (.ry k x) oper.op=true){v:V}{gf:List (Nat×Ob)}
  (h:act cf nn d t o (.ry k x)=some (v,gf)):qv P F Pr w0 lb N n' t o a w oper v gf:=by
 simp only[act,al,aR] at h;obtain⟨⟨k',i⟩,hb,rfl,rfl⟩:=h;cases hop:oper.op with
 |convert s e y=>
  rw[hop] at hok;simp only[gF,aj,Option.isSome_iff_exists] at hok;obtain⟨⟨hd,ds,hs⟩,hx⟩:=hok;exact dz R hn.mX (val:= .int k (k.wrap i)) (by simp[execOp,hop,yJ R hx hb,convert,run_underlying (wc hd),run_underlying hs,Conv.intToInt]) (.c _ _ (.int _ _))
 |_=>rw[hop] at hok;simp[gF] at hok
theorem I2(R:Rel F Pr w0 lb N E n t o a w){nn:Nat}{n':Nat→Prop}(hn:Fr n nn n'){cf:cI}{d i:Nat}{x:O}{oper:Oper}(hok:gF P F (.ext i x) oper.op=true){v:V}{gf:List (Nat×Ob)}
  (h:act cf nn d t o (.ext i x)=some (v,gf)):qv P F Pr w0 lb N n' t o a w oper v gf:=by
 cases hop:oper.op with
 |extract y j=>
  rw[hop] at hok;simp only[gF,aj,beq_iff_eq] at hok;obtain⟨rfl,hx⟩:=hok;simp only[act] at h;split at h
  ·rename_i vs hvs;simp only[al,aR] at h;obtain⟨u,hu,rfl,rfl⟩:=h;have hr:=lC R hx hvs;generalize hg:a.eval y=val at hr;cases hr with
   |lM _ xs hnn hh=>
    have hlt:i<xs.size:=by rw[←hnn];exact(List.getElem?_eq_some_iff.1 hu).1
    exact dz R hn.mX (val:=xs[i]) (by simp[execOp,hop,hg,Instr.extract,hlt]) (hh i _ _ hu (by simp[hlt]))
  ·cases h
 |_=>rw[hop] at hok;simp[gF] at hok
theorem GD(R:Rel F Pr w0 lb N E n t o a w){nn:Nat}{n':Nat→Prop}(hn:Fr n nn n'){cf:cI}{d:Nat}{x:O}{oper:Oper}(hok:gF P F (.lq x) oper.op=true){v:V}{gf:List (Nat×Ob)}
  (h:act cf nn d t o (.lq x)=some (v,gf)):qv P F Pr w0 lb N n' t o a w oper v gf:=by
 cases hop:oper.op with
 |nilCheck y=>
  rw[hop] at hok;simp only[act] at h;split at h<;>first|(cases h;done)|skip
  all_goals
   rename_i hl;cases h;have hr:=fw R hok hl;generalize hg:a.eval y=val at hr;refine dz R hn.mX (val:=val) ?_ (.c _ _ hr);cases hr<;>simp[execOp,hop,hg]
 |_=>rw[hop] at hok;simp[gF] at hok
end Mx
namespace Mx
open Go
variable {P:Program} {F:Nat→FuncId} {Pr:Nat→Prop} {w0:World} {lb:Lb} {N:Nat} {E:Nat→Option Loc} {n:Nat→Prop} {t:List (Nat×V)} {o:List (Nat×Ob)} {a:Act} {w:World}
theorem Er(R:Rel F Pr w0 lb N E n t o a w){nn:Nat}{n':Nat→Prop}(hn:Fr n nn n'){cf:cI}{d off:Nat}{x:O}{oper:Oper}(hok:gF P F (.bN off x) oper.op=true){v:V}{gf:List (Nat×Ob)}
  (h:act cf nn d t o (.bN off x)=some (v,gf)):qv P F Pr w0 lb N n' t o a w oper v gf:=by
 cases hop:oper.op with
 |fieldAddr s y f=>
  rw[hop] at hok;simp only[gF] at hok;split at hok
  ·rename_i fs hfs;split at hok
   ·rename_i fd hfd;split at hok
    ·rename_i k hk;simp only[aj,beq_iff_eq,bne_iff_ne,ne_eq] at hok;obtain⟨⟨rfl,hk0⟩,hx⟩:=hok;have hrun:∀ad,(Instr.fieldAt s (.pointer (some ad)) f).run P w= .ok (.pointer (some (ad.add fd.offset))) w:=by
      intro ad;simp[Instr.fieldAt,run_underlying (pZ hfs),hfd,Instr.sureAddr,fieldPlace,iq hk,hk0]
     simp only[act] at h;split at h<;>first|(cases h;done)|skip
     ·rename_i id ct i j hl;cases h;have hr:=fw R hx hl;generalize hg:a.eval y=val at hr;cases hr with
      |ptr _ _ _ _ b cap sz hE=>
       refine dz R hn.mX (val:= .pointer (some (((gK b).add (i*sz+j)).add fd.offset))) ?_ (.c _ _ ?_)
       ·simp only[execOp,hop,hg,Sem.run_bind,hrun];rfl
       ·rw[add_add,Nat.add_assoc];exact .ptr id ct i (j+fd.offset) b cap sz hE
     ·rename_i cells j hl;cases h;have hr:=fw R hx hl;generalize hg:a.eval y=val at hr;cases hr with
      |vp _ _ ad vs hcell hrep hcl=>
       refine dz R hn.mX (val:= .pointer (some (ad.add fd.offset))) ?_ (.c _ _ ?_)
       ·simp only[execOp,hop,hg,Sem.run_bind,hrun];rfl
       ·refine .vp cells (j+fd.offset) _ (fun q=>vs (fd.offset+q)) ?_ ?_ (fun q t ht=>hcl (fd.offset+q) t (by rw[←Nat.add_assoc];exact ht))
        ·intro q t ht;rw[Nat.add_assoc] at ht;obtain⟨h1,h2⟩:=hcell _ t ht;exact⟨by rw[kL];exact h1,by rw[add_add];exact h2⟩
        ·intro q t ht;rw[Nat.add_assoc] at ht;exact hrep _ t ht
    ·simp at hok
   ·cases hok
  ·cases hok
 |_=>rw[hop] at hok;simp[gF] at hok
theorem vh{ty e:TypeId}{sz:Nat}(hs:iH P ty=some e)(hsz:ld P e=some sz){ad:Addr}{len c i:Nat}{k:IntKind}(hi:i<len):
  (Instr.indexAt ty (.slice (some ad) len c) (.int k (i:Int))).run P w= .ok (.pointer (some (ad.add (i*sz)))) w:=by
 have h1:(0:Int)≤i∧(i:Int)<len:=by omega
 simp[Instr.indexAt,asIntOf,run_underlying (jX hs),iq hsz,hi]
theorem Ep(R:Rel F Pr w0 lb N E n t o a w){nn:Nat}{n':Nat→Prop}(hn:Fr n nn n'){cf:cI}{d sz:Nat}{x ix:O}{oper:Oper}(hok:gF P F (.kG sz x ix) oper.op=true){v:V}{gf:List (Nat×Ob)}
  (h:act cf nn d t o (.kG sz x ix)=some (v,gf)):qv P F Pr w0 lb N n' t o a w oper v gf:=by
 cases hop:oper.op with
 |indexAddr ty y iy=>
  rw[hop] at hok;simp only[gF] at hok;split at hok
  ·rename_i e he;simp only[aj,beq_iff_eq,decide_eq_true_eq] at hok;obtain⟨⟨⟨hsz,hpos⟩,hx⟩,hix⟩:=hok;simp only[act] at h;split at h
   ·rename_i id ct off len i hl hi;split at h
    ·rename_i ob hg;split at h
     ·rename_i hc;cases h;obtain⟨hver,hsz2,hbx,hlt⟩:=hc;obtain⟨k,hk⟩:=nP R hix hi;have hr:=fw R hx hl;generalize hv:a.eval y=val at hr;cases hr with
      |row _ _ _ _ cap sz' b hE hfit ho=>
       refine dz R hn.mX (val:= .pointer (some (((gK b).add (off*sz')).add (i*sz)))) ?_ (.c _ _ ?_)
       ·simp only[execOp,hop,hv,hk,Sem.run_bind,vh he hsz hlt];rfl
       ·obtain⟨e1,_⟩:=mC R hg hver hE;subst e1;have:=j7.ptr (X:=cx F Pr E o w) id ct (off+i) 0 b cap ob.sz hE;rw[add_add,←hsz2,show off*ob.sz+i*ob.sz=(off+i)*ob.sz+0 from by rw[Nat.add_mul];rfl];exact this
      |oi=>omega
     ·cases h
    ·cases h
   ·rename_i own sz' rows i hl hi;split at h
    ·rename_i hs;subst hs;simp only[al,aR] at h;obtain⟨r,hr0,rfl,rfl⟩:=h;obtain⟨k,hk⟩:=nP R hix hi;have hr:=fw R hx hl;generalize hv:a.eval y=val at hr;cases hr with
     |sl _ _ _ A c vs hc hwid hcell hrep hcl=>
      have hw:=hwid i r hr0;have hlt:i<rows.length:=(List.getElem?_eq_some_iff.1 hr0).1;have h0:0<r.length:=by omega
      obtain⟨ad,rfl,_,_⟩:=hcell i 0 r r[0] hr0 (by simp[h0]);refine dz R hn.mX (val:= .pointer (some (ad.add (i*sz')))) ?_ (.c _ _ ?_)
      ·simp only[execOp,hop,hv,hk,Sem.run_bind,vh he hsz hlt];rfl
      ·refine .vp r 0 _ (fun q=>vs i q) ?_ ?_ (fun q t ht=>hcl i q r t hr0 (by simpa using ht))
       ·intro q t ht;rw[Nat.zero_add] at ht;obtain⟨ad',had,h1,h2⟩:=hcell i q r t hr0 ht;cases had;exact⟨by rw[kL];exact h1,by rw[add_add];exact h2⟩
       ·intro q t ht;rw[Nat.zero_add] at ht;exact hrep i q r t hr0 ht
    ·cases h
   ·cases h
  ·cases hok
 |_=>rw[hop] at hok;simp[gF] at hok
theorem Eo(R:Rel F Pr w0 lb N E n t o a w){nn:Nat}{n':Nat→Prop}(hn:Fr n nn n'){cf:cI}{d k:Nat}{x y:O}{oper:Oper}(hok:gF P F (.store k x y) oper.op=true){v:V}{gf:List (Nat×Ob)}
  (hcl:∀{ts us:List T} {vs:List Value},h_ (cl o) ts=some us→g_ (cx F Pr E o w) ts vs→g_ (cx F Pr E o w) us vs∧∀(i:Nat) (t:T),us[i]? =some t→ff t)
  (h:act cf nn d t o (.store k x y)=some (v,gf)):qv P F Pr w0 lb N n' t o a w oper v gf:=by
 cases hop:oper.op with
 |store ty x' y'=>
  rw[hop] at hok;simp only[gF,aj,beq_iff_eq] at hok;obtain⟨⟨hx,hy⟩,hsz⟩:=hok;simp only[act] at h;split at h
  ·rename_i id ct i j cs hl hc;split at h
   ·rename_i ob hg;split at h
    ·rename_i hcond;obtain⟨hver,hw,hk⟩:=hcond;split at h
     ·rename_i r cs' hr hcs;split at h
      ·rename_i hfit;cases h;have hp:=fw R hx hl;generalize hv:a.eval x'=val at hp;cases hp with
       |ptr _ _ _ _ b cap sz hE=>
        obtain⟨e1,hob⟩:=mC R hg hver hE;have hrepc:=o8 R hy hc;have hlen:cs'.length=cs.length∧g_ (cx F Pr E o w) cs' (a.eval y').cells.toList∧(ob.bx=false→∀(i:Nat) (t:T),cs'[i]? =some t→ff t):=by
         split at hcs
         ·rename_i hb;cases hcs;exact⟨rfl,hrepc,fun q=>by rw[hb] at q;cases q⟩
         ·have:=hcl hcs hrepc;exact⟨by rw[this.1.1,hrepc.1],this.1,fun _=>this.2⟩
        subst e1;have hE2:E ob.ct=some (.kP b cap ob.sz):=by rw[hver];exact hE
        obtain⟨_,hl3,hwid,_,cells,e,fr,m1,m2,m3,m4⟩:=mC R hg rfl hE2;have m1':w.heap[b]? =some (.cells cells e fr):=m1;have hrl:=hwid i r hr;have hil:i<ob.rows.length:=(List.getElem?_eq_some_iff.1 hr).1;have hfit2:i*ob.sz+j+0+(a.eval y').cells.toList.length≤cells.size:=by
         rw[m2,←hlen.2.1.1];have:(i+1)*ob.sz≤cap*ob.sz:=cn _ (by omega);rw[Nat.add_mul,Nat.one_mul] at this;omega
        obtain⟨w',_,g1,_⟩:=ke (P:=P) (a.eval y').cells.toList 0 (i*ob.sz+j) cells w m1' hfit2 m3 hlen.2.1.one;obtain⟨R2,K⟩:=R.write hg hw hE2 hr hfit hlen.2.1 hlen.2.2 g1;refine⟨undef,w',E,.inr ⟨?_,rfl⟩,R2.same rfl rfl rfl rfl hn.mX,.undef _ (by intro b h;cases h)⟩;have hcs2:(a.eval y').cells.size=k:=by have:=hrepc.1;simp at this;omega
        simp only[execOp,hop,hv,Instr.storeAt,Instr.sureAddr,storeVar,Sem.run_bind,Sem.run_pure,Result.andThen_ok,iq hsz,hcs2,ne_eq,not_true_eq_false,if_false,g1]
      ·cases h
     ·cases h
    ·cases h
   ·cases h
  ·cases h
 |_=>rw[hop] at hok;simp[gF] at hok
theorem CU(R:Rel F Pr w0 lb N E n t o a w){id ct off len:Nat}{ob:Ob}{v:Value}(hg:get o id=some ob)(hver:ob.ct=ct)(hfit:off+len≤ob.rows.length)(hw:ob.w=false)
  (hbx:ob.bx=false) (hr:j7 (cx F Pr E o w) (.row id ct off len) v):j7 (cx F Pr E o w) (.sl false ob.sz ((ob.rows.drop off).take len)) v:=by
 cases hr with
 |row _ _ _ _ cap sz b hE hl ho=>
  obtain⟨e1,h1,h2,hcl,cs,e,fr,m1,m2,m3,m4⟩:=mC R hg hver hE;subst e1;have hlen:((ob.rows.drop off).take len).length=len:=by simp;omega
  have m1':w.heap[b]? =some (.cells cs e fr):=m1;have key:∀(i j:Nat) (r:List T) (t:T),((ob.rows.drop off).take len)[i]? =some r→r[j]? =some t→∃v,cs[(off+i)*ob.sz+j]? =some v∧j7 (cx F Pr E o w) t v:=by
   intro i j r t hr ht;rw[b8] at hr;split at hr
   ·rw[fK] at hr;exact m4 _ _ r t hr ht
   ·cases hr
  have hnu:¬(cx F Pr E o w).U b:=by
   rintro (⟨id',ob',cap',sz',g1,g2,g3⟩|hpr);rotate_left
   ·have h1:=R.pr.1 b hpr;rcases (R.place id ob b cap ob.sz hg (by rw[hver];exact hE)).2 with q|q
    ·omega
    ·exact h1.2 q
   have:=R.pA id id' ob ob' b cap ob.sz cap' sz' hg g1 (by rw[hver];exact hE) g3;subst this;rw[hg] at g1;cases g1;rw[hw] at g2;cases g2
  have:j7 (cx F Pr E o w) (.sl false ob.sz ((ob.rows.drop off).take len)) (.slice (some ((gK b).add (off*ob.sz))) ((ob.rows.drop off).take len).length (cap-off)):=by
   refine .sl false ob.sz _ _ _ (fun i j=>cs.getD ((off+i)*ob.sz+j) undef) ?_ ?_ ?_ ?_ ?_
   ·rw[hlen];omega
   ·intro i r hr;rw[b8] at hr;split at hr
    ·rw[fK] at hr;exact h2 _ r hr
    ·cases hr
   ·intro i j r t hr ht;obtain⟨v,hv,_⟩:=key i j r t hr ht;refine⟨_,rfl,by rw[kL];exact hnu, ?_⟩;rw[add_add,lz];show w.cell? _=_;simp only[World.cell?,m1',Option.isSome_none,aB,if_false,dv];rw[show off*ob.sz+(i*ob.sz+j)=(off+i)*ob.sz+j from by rw[Nat.add_mul];omega,hv];rfl
   ·intro i j r t hr ht;obtain⟨v,hv,hrep⟩:=key i j r t hr ht;simp only[dv,hv,jU];exact hrep
   ·intro i j r t hr ht;rw[b8] at hr;split at hr
    ·rw[fK] at hr;exact hcl hbx _ j r t hr ht
    ·cases hr
  rw[hlen] at this;exact this
 |oi _ _ hE=>
  have:=j7.sl (X:=cx F Pr E o w) false ob.sz [] none 0 (fun _ _=>undef) (by simp) (fun i r h=>by simp at h) (fun i j r t h=>by simp at h) (fun i j r t h=>by simp at h) (fun i j r t h=>by simp at h);simpa using this
theorem xN(R:Rel F Pr w0 lb N E n t o a w){x y:T}{v:Value}(h:cl o x=some y)(hr:j7 (cx F Pr E o w) x v):j7 (cx F Pr E o w) y v:=by
 cases x with
 |ptr=>simp[cl] at h
 |vp=>simp[cl] at h
 |fn=>simp[cl] at h
 |int k m=>simp[cl,wr,sV] at h;subst h;exact hr
 |bool b=>simp[cl,wr,sV] at h;subst h;exact hr
 |str s=>simp[cl,wr,sV] at h;subst h;exact hr
 |aL sz=>
  simp[cl,wr,sV] at h;subst h;cases hr;exact .sl false _ [] none 0 (fun _ _=>undef) (by simp) (fun i r h=>by simp at h) (fun i j r t h=>by simp at h) (fun i j r t h=>by simp at h) (fun i j r t h=>by simp at h)
 |sl own sz rows=>simp[cl,wr,sV] at h;subst h;cases hr with|sl _ _ _ A c vs h1 h2 h3 h4 h5=>exact .sl false _ _ A c vs h1 h2 h3 h4 h5
 |row id ct off len=>
  simp only[cl] at h;split at h
  ·rename_i hwr;simp only[sV] at h;split at h
   ·rename_i ob hg;split at h
    ·rename_i hc;cases h;obtain⟨hver,hbx,hfit⟩:=hc;have hw:ob.w=false:=by
      simp only[wr,hg] at hwr;cases hq:ob.w
      ·rfl
      ·simp[hq] at hwr
     exact CU R hg hver hfit hw hbx hr
    ·cases h
   ·cases h
  ·cases h
theorem sy(R:Rel F Pr w0 lb N E n t o a w){x y:T}{v:Value}(h:cl o x=some y)(hr:j7 (cx F Pr E o w) x v):ff y:=by
 cases x with
 |ptr=>simp[cl] at h
 |vp=>simp[cl] at h
 |fn=>simp[cl] at h
 |int k m=>simp[cl,wr,sV] at h;subst h;exact .int _ _
 |bool b=>simp[cl,wr,sV] at h;subst h;exact .bool _
 |str s=>simp[cl,wr,sV] at h;subst h;exact .str _
 |aL sz=>simp[cl,wr,sV] at h;subst h;exact .sl _ _ _ (fun i j r t h=>by simp at h)
 |sl own sz rows=>simp[cl,wr,sV] at h;subst h;cases hr with|sl _ _ _ A c vs h1 h2 h3 h4 h5=>exact .sl _ _ _ h5
 |row id ct off len=>
  have:=xN R h hr;simp only[cl] at h;split at h
  ·simp only[sV] at h;split at h
   ·split at h
    ·cases h;cases this with|sl _ _ _ A c vs h1 h2 h3 h4 h5=>exact .sl _ _ _ h5
    ·cases h
   ·cases h
  ·cases h
theorem zS(R:Rel F Pr w0 lb N E n t o a w):∀{ts us:List T} {vs:List Value},h_ (cl o) ts=some us→g_ (cx F Pr E o w) ts vs→g_ (cx F Pr E o w) us vs
 |[],us,vs,h,hr=>by simp[h_] at h;subst h;exact hr
 |x::ts,us,vs,h,hr=>by
  simp only[h_] at h;split at h
  ·rename_i y ys hy hys;cases h;obtain⟨v,vs',rfl,h1,h2⟩:=hr.wu;exact .cons (xN R hy h1) (zS R hys h2)
  ·cases h
theorem th(R:Rel F Pr w0 lb N E n t o a w):∀{ts us:List T} {vs:List Value},h_ (cl o) ts=some us→g_ (cx F Pr E o w) ts vs→∀(i:Nat) (t:T),us[i]? =some t→ff t
 |[],us,vs,h,hr,i,t,hi=>by simp[h_] at h;subst h;simp at hi
 |x::ts,us,vs,h,hr,i,t,hi=>by
  simp only[h_] at h;split at h
  ·rename_i y ys hy hys;cases h;obtain⟨v,vs',rfl,h1,h2⟩:=hr.wu;cases i with
   |zero=>simp at hi;subst hi;exact sy R hy h1
   |succ i=>exact th R hys h2 i t (by simpa using hi)
  ·cases h
theorem IZ(R:Rel F Pr w0 lb N E n t o a w){nn:Nat}{n':Nat→Prop}(hn:Fr n nn n'){cf:cI}{d:Nat}{x ix:O}{oper:Oper}(hok:gF P F (.idx x ix) oper.op=true){v:V}{gf:List (Nat×Ob)}
  (h:act cf nn d t o (.idx x ix)=some (v,gf)):qv P F Pr w0 lb N n' t o a w oper v gf:=by
 cases hop:oper.op with
 |index ty y iy=>
  rw[hop] at hok;simp only[gF,aj] at hok;obtain⟨⟨hs,hx⟩,hix⟩:=hok;simp only[act] at h;split at h
  ·rename_i s i hl hi;split at h
   ·rename_i hlt;cases h;obtain⟨k,hk⟩:=nP R hix hi;have hr:=(fw R hx hl).qy;refine dz R hn.mX (val:= .int .u8 (s[i]'hlt).toNat) ?_ (.c _ _ (.int _ _));have:(Instr.index ty (.string s) (.int k (i:Int))).run P w= .ok (.int .u8 (s[i]'hlt).toNat) w:=by
     have hg:s[(i:Int).toNat]? =some (s[i]'hlt):=by rw[fB];exact getElem?_pos s i hlt
     have h0:(0:Int)≤i:=by omega
     simp only[Instr.index,asIntOf,Sem.run_bind,Sem.run_pure,Result.andThen_ok,run_underlying (sq hs),if_pos h0,hg]
    simp only[execOp,hop,hr,hk,Sem.run_bind,this];rfl
   ·cases h
  ·cases h
 |_=>rw[hop] at hok;simp[gF] at hok
theorem El{α:Type}{as:Array α}{x:α}(h:as.toList=[x]):as= #[x]:=by cases as;simp_all
theorem xV{α:Type}{as:Array α}{x y:α}(h:as.toList=[x,y]):as= #[x,y]:=by cases as;simp_all
theorem IY(R:Rel F Pr w0 lb N E n t o a w){nn:Nat}{n':Nat→Prop}(hn:Fr n nn n'){cf:cI}{d:Nat}{x:O}{oper:Oper}{c:Call}(hop:oper.op= .call c)(hok:sP P F (.len x) c=true){v:V}{gf:List (Nat×Ob)}
  (h:act cf nn d t o (.len x)=some (v,gf)):qv P F Pr w0 lb N n' t o a w oper v gf:=by
 obtain⟨cal,as,ats⟩:=c;cases cal with
 |value=>simp[sP] at hok
 |invoke=>simp[sP] at hok
 |builtin b=>
 simp only[sP] at hok;obtain⟨y,ty,rfl,h1,h2,hx,e,he⟩:=HE hok;have h1:=El h1;have h2:=El h2;subst h1 h2
 ·simp only[act] at h;split at h
  ·rename_i z hz;simp only[al,aR] at h;obtain⟨m,hm,rfl,rfl⟩:=h;have hr:=fw R hx hz;refine dz R hn.mX (val:= .int .i64 m) ?_ (.c _ _ (.int _ _));have:(Builtin.len_ #[ty] oper.type #[a.eval y]).run P w= .ok (.int .i64 m) w:=by
    generalize hv:a.eval y=val at hr;cases z<;>simp only[lenOf,aH,reduceCtorEq] at hm
    ·subst hm;cases hr;simp[Builtin.len_,run_underlying (jX he),goInt]
    ·subst hm;cases hr;simp[Builtin.len_,run_underlying (jX he),goInt]
    ·subst hm;cases hr<;>simp[Builtin.len_,run_underlying (jX he),goInt]
   simp[execOp,hop,resolve,invoke,builtin,this]
  ·cases h
theorem Gy(R:Rel F Pr w0 lb N E n t o a w){nn:Nat}{n':Nat→Prop}(hn:Fr n nn n'){cf:cI}{d:Nat}{x:O}{oper:Oper}{c:Call}(hop:oper.op= .call c)(hok:sP P F (.ky x) c=true){v:V}{gf:List (Nat×Ob)}
  (h:act cf nn d t o (.ky x)=some (v,gf)):qv P F Pr w0 lb N n' t o a w oper v gf:=by
 obtain⟨cal,as,ats⟩:=c;cases cal with
 |value=>simp[sP] at hok
 |invoke=>simp[sP] at hok
 |builtin b=>
 simp only[sP] at hok;obtain⟨y,ty,rfl,h1,h2,hx,he⟩:=Fu hok;have h1:=El h1;have h2:=El h2;subst h1 h2
 ·simp only[act] at h;split at h
  ·rename_i s hz;cases h;have hr:=(fw R hx hz).qy;refine dz R hn.mX (val:= .int .i64 s.size) ?_ (.c _ _ (.int _ _));have:(Builtin.len_ #[ty] oper.type #[a.eval y]).run P w= .ok (.int .i64 s.size) w:=by
    simp[Builtin.len_,run_underlying (sq he),goInt,hr]
   simp[execOp,hop,resolve,invoke,builtin,this]
  ·cases h
theorem I1(R:Rel F Pr w0 lb N E n t o a w){nn:Nat}{n':Nat→Prop}(hn:Fr n nn n'){cf:cI}{d off k:Nat}{agg:Bool}{x:O}{oper:Oper}(hok:gF P F (.Ir agg off k x) oper.op=true){v:V}{gf:List (Nat×Ob)}
  (h:act cf nn d t o (.Ir agg off k x)=some (v,gf)):qv P F Pr w0 lb N n' t o a w oper v gf:=by
 cases hop:oper.op with
 |field ty y f=>
  rw[hop] at hok;simp only[gF] at hok;split at hok
  ·rename_i fs hfs;split at hok
   ·rename_i fd hfd;simp only[aj,beq_iff_eq] at hok;obtain⟨⟨⟨rfl,hagg⟩,hk⟩,hx⟩:=hok;simp only[act] at h;split at h
    ·rename_i cs hcs;have hr:=lC R hx hcs;generalize hv:a.eval y=val at hr;cases hr with
     |a _ xs hlen hrep=>
      have hL:g_ (cx F Pr E o w) cs xs.toList:=⟨by simpa using hlen,fun i t v h1 h2=>hrep i t v h1 (by simpa using h2)⟩;split at h
      ·rename_i hagg2;split at h
       ·rename_i hfit;cases h;refine dz R hn.mX (val:= .agg (xs.extract fd.offset (fd.offset+k))) ?_ ?_
        ·simp[execOp,hop,hv,Instr.field,run_underlying (pZ hfs),hfd,asAgg,part,mO (hagg.trans (by rw[hagg2])),iq hk]
        ·have:=(hL.drop fd.offset).take k;have h2:=kQ.KB this;rw[show (List.take k (List.drop fd.offset xs.toList)).toArray=xs.extract fd.offset (fd.offset+k) from by
          apply Array.ext';simp[List.take_drop,Nat.add_comm]] at h2
         exact h2
       ·cases h
      ·rename_i hagg2;simp only[al,aR] at h;obtain⟨c,hc,rfl,rfl⟩:=h;have hlt:fd.offset<xs.size:=by rw[←hlen];exact(List.getElem?_eq_some_iff.1 hc).1
       refine dz R hn.mX (val:=xs[fd.offset]) ?_ (.c _ _ (hrep _ _ _ hc (by simp[hlt])));have hagg3:oa P fd.type=some false:=by rw[hagg];cases agg<;>simp_all
       simp[execOp,hop,hv,Instr.field,run_underlying (pZ hfs),hfd,asAgg,part,mO hagg3,hlt]
    ·cases h
   ·cases hok
  ·cases hok
 |_=>rw[hop] at hok;simp[gF] at hok
theorem w6(R:Rel F Pr w0 lb N E n t o a w):∀{xs:List O} {ys:List Operand} {ts:List T},vW F xs ys=true→h_ (jL t) xs=some ts→g_ (cx F Pr E o w) ts (ys.map a.eval)
 |[],[],ts,_,h=>by simp[h_] at h;subst h;exact .nil _
 |x::xs,y::ys,ts,hok,h=>by
  simp only[vW,aj] at hok;simp only[h_] at h;split at h
  ·rename_i u us h1 h2;cases h;exact .cons (fw R hok.1 h1) (w6 R hok.2 h2)
  ·cases h
 |[],_::_,_,hok,_=>by simp[vW] at hok
 |_::_,[],_,hok,_=>by simp[vW] at hok
theorem GF(R:Rel F Pr w0 lb N E n t o a w){nn:Nat}{n':Nat→Prop}(hn:Fr n nn n'){cf:cI}{d f:Nat}{caps:List O}{oper:Oper}(hok:gF P F (.tL f caps) oper.op=true){v:V}{gf:List (Nat×Ob)}
  (h:act cf nn d t o (.tL f caps)=some (v,gf)):qv P F Pr w0 lb N n' t o a w oper v gf:=by
 cases hop:oper.op with
 |makeFunc g first captured=>
  rw[hop] at hok;cases g with
  |func g=>
   simp only[gF,aj,beq_iff_eq] at hok;obtain⟨⟨rfl,hfirst⟩,hcaps⟩:=hok;simp only[act,al,aR] at h;obtain⟨cs,hcs,rfl,rfl⟩:=h;have hL:=w6 R hcaps hcs;have hf0:first= #[]:=by simpa using hfirst
   subst hf0;refine dz R hn.mX (val:= .func (.func (F f)) #[] (captured.map a.eval)) (by simp[execOp,hop,Instr.makeFunc]) (.c _ _ ?_);have:=j7.fn (X:=cx F Pr E o w) f cs (captured.map a.eval) (by have:=hL.1;simpa using this) (fun i t v h1 h2=>hL.2 i t v h1 (by simpa [iM] using h2));exact this
  |_=>simp[gF] at hok
 |_=>rw[hop] at hok;simp[gF] at hok
theorem mQ(R:Rel F Pr w0 lb N E n t o a w){x:Option O}{y:Option Operand}{dflt m:Nat}(hok:ye F x y=true)(h:vV t dflt x=some m):
  (y=none∧m=dflt∧x=none)∨∃y' k,y=some y'∧a.eval y'= .int k (m:Int)∧x.isSome:=by
 cases x with
 |none=>cases y with
  |none=>simp[vV] at h;exact .inl ⟨rfl,h.symm,rfl⟩
  |some y=>simp[ye] at hok
 |some x=>cases y with
  |none=>simp[ye] at hok
  |some y=>obtain⟨k,hk⟩:=nP R hok h;exact .inr ⟨y,k,rfl,hk,rfl⟩
theorem run_sliceBound{m y:Nat}{k:IntKind}{code:BoundsCode}(h:m≤y):(Instr.sliceBound (.int k (m:Int)) y code).run P w= .ok m w:=by
 have:(0:Int)≤m∧(m:Int)≤y:=by omega
 simp[Instr.sliceBound,asIntOf,this]
theorem Gx(R:Rel F Pr w0 lb N E n t o a w){nn:Nat}{n':Nat→Prop}(hn:Fr n nn n'){cf:cI}{d:Nat}{x:O}{lo hi:Option O}{oper:Oper}(hok:gF P F (.oB x lo hi) oper.op=true){v:V}{gf:List (Nat×Ob)}
  (h:act cf nn d t o (.oB x lo hi)=some (v,gf)):qv P F Pr w0 lb N n' t o a w oper v gf:=by
 cases hop:oper.op with
 |slice ty y lo' hi' mx'=>
  rw[hop] at hok;cases mx' with
  |some _=>simp[gF] at hok
  |none=>
   simp only[gF,aj] at hok;obtain⟨⟨⟨hs,hx⟩,hlo⟩,hhi⟩:=hok;simp only[act] at h;split at h
   ·rename_i s hl;split at h
    ·rename_i l u h1 h2;split at h
     ·rename_i hc;cases h;have hr:=(fw R hx hl).qy;refine dz R hn.mX (val:= .string (s.extract l u)) ?_ (.c _ _ (.str _));have hb:(Instr.sliceBounds false s.size s.size (lo'.map a.eval) (hi'.map a.eval) none).run P w= .ok (l,u,s.size) w:=by
       rcases mQ R hlo h1 with⟨rfl,rfl,_⟩|⟨y1,k1,rfl,e1,_⟩<;>rcases mQ R hhi h2 with⟨rfl,rfl,_⟩|⟨y2,k2,rfl,e2,_⟩
       ·simp[Instr.sliceBounds]
       ·simp[Instr.sliceBounds,e2,run_sliceBound hc.2]
       ·simp[Instr.sliceBounds,e1,run_sliceBound hc.1]
       ·simp[Instr.sliceBounds,e1,e2,run_sliceBound hc.1,run_sliceBound hc.2]
      simp[execOp,hop,hr,Instr.sliceAt,run_underlying (sq hs),Instr.slice,hb]
     ·cases h
    ·cases h
   ·cases h
 |_=>rw[hop] at hok;simp[gF] at hok
theorem j7.empty{X:Cx}(own:Bool)(sz:Nat)(A:Option Addr)(c:Nat):j7 X (.sl own sz []) (.slice A 0 c):=
 .sl own sz [] A c (fun _ _=>undef) (by simp) (fun i r h=>by simp at h) (fun i j r t h=>by simp at h) (fun i j r t h=>by simp at h) (fun i j r t h=>by simp at h)
theorem IP(R:Rel F Pr w0 lb N E n t o a w){nn:Nat}{n':Nat→Prop}(hn:Fr n nn n'){cf:cI}{d sz:Nat}{x:O}{lo hi mx:Option O}{oper:Oper}(hok:gF P F (.wL sz x lo hi mx) oper.op=true){v:V}{gf:List (Nat×Ob)}
  (h:act cf nn d t o (.wL sz x lo hi mx)=some (v,gf)):qv P F Pr w0 lb N n' t o a w oper v gf:=by
 cases hop:oper.op with
 |slice ty y lo' hi' mx'=>
  rw[hop] at hok;simp only[gF] at hok;split at hok
  ·rename_i e he;simp only[aj,beq_iff_eq] at hok;obtain⟨⟨⟨⟨⟨hsz,hx⟩,hlo⟩,hhi⟩,hmx⟩,hmh⟩:=hok;simp only[act] at h;split at h
   ·rename_i z hz;split at h
    ·rename_i len hlen;split at h
     ·rename_i l u m h1 h2 h3;split at h
      ·rename_i hc;have hr:=fw R hx hz;generalize hv:a.eval y=val at hr;have hshape:∃A c,val= .slice A len c∧len≤c:=by
        cases z<;>simp only[lenOf,aH,reduceCtorEq] at hlen
        ·subst hlen;cases hr;exact⟨_,_,rfl,Nat.le_refl _⟩
        ·subst hlen;cases hr;exact⟨_,_,rfl,by assumption⟩
        ·subst hlen;cases hr
         ·exact⟨_,_,rfl,by omega⟩
         ·exact⟨_,_,rfl,Nat.le_refl _⟩
       obtain⟨A,c,rfl,hlc⟩:=hshape;have hb:∃m',u≤m'∧(mx=none→m'=c)∧(Instr.sliceBounds true len c (lo'.map a.eval) (hi'.map a.eval) (mx'.map a.eval)).run P w= .ok (l,u,m') w:=by
        rcases mQ R hmx h3 with⟨rfl,rfl,rfl⟩|⟨y3,k3,rfl,e3,e4⟩
        ·refine⟨c,by omega,fun _=>rfl, ?_⟩;rcases mQ R hlo h1 with⟨rfl,rfl,_⟩|⟨y1,k1,rfl,e1,_⟩<;>rcases mQ R hhi h2 with⟨rfl,rfl,_⟩|⟨y2,k2,rfl,e2,_⟩
         ·simp[Instr.sliceBounds]
         ·simp[Instr.sliceBounds,e2,run_sliceBound (show u≤c by omega)]
         ·simp[Instr.sliceBounds,e1,run_sliceBound (show l≤u by omega)]
         ·simp[Instr.sliceBounds,e1,e2,run_sliceBound (show l≤u by omega),run_sliceBound (show u≤c by omega)]
        ·refine⟨m,by omega,fun q=>by rw[q] at e4;simp at e4, ?_⟩;rcases mQ R hhi h2 with⟨rfl,rfl,rfl⟩|⟨y2,k2,rfl,e2,_⟩
         ·simp at hmh;rw[hmh] at e4;simp at e4
         ·rcases mQ R hlo h1 with⟨rfl,rfl,_⟩|⟨y1,k1,rfl,e1,_⟩
          ·simp[Instr.sliceBounds,e2,e3,run_sliceBound (show u≤m by omega),run_sliceBound (show m≤c by omega)]
          ·simp[Instr.sliceBounds,e1,e2,e3,run_sliceBound (show l≤u by omega),run_sliceBound (show u≤m by omega),run_sliceBound (show m≤c by omega)]
       obtain⟨m',hum,hmc,hb⟩:=hb;have hrun:(execOp a.eval oper).run P w= .ok (.value (.slice (if m'=l then A else A.map (·.add (l*sz))) (u-l) (m'-l))) w:=by
        simp[execOp,hop,hv,Instr.sliceAt,run_underlying (jX he),Instr.slice,hb,iq hsz]
       split at h
       ·cases h;exact dz R hn.mX hrun (.undef _ (by intro b h;cases h))
       ·rename_i hmn;have hmx0:mx=none:=by simpa using hmn
        have hm':=hmc hmx0;subst hm';split at h<;>first|(cases h;done)|skip
        ·cases h;simp only[lenOf,aH] at hlen;subst hlen;refine dz R hn.mX hrun (.c _ _ ?_);generalize hq:Value.slice A 0 m'=q at hr;cases hr;cases hq;have:u=0:=by omega
         have:l=0:=by omega
         subst u l;exact .aL _
        ·rename_i own sz' rows;split at h
         ·rename_i hse;subst hse;cases h;simp only[lenOf,aH] at hlen;subst hlen;refine dz R hn.mX hrun (.c _ _ ?_);by_cases hlu:l=u
          ·subst hlu;simp only[Nat.sub_self,List.take_zero];exact .empty _ _ _ _
          ·rw[if_neg (by omega)];generalize hq:Value.slice A rows.length m'=q at hr;cases hr with
           |sl _ _ _ A' c' vs k1 k2 k3 k4 k5=>
            cases hq;have hL:((rows.drop l).take (u-l)).length=u-l:=by simp;omega
            have key:∀(i:Nat) (r:List T),((rows.drop l).take (u-l))[i]? =some r→rows[l+i]? =some r:=by
             intro i r hr;rw[b8] at hr;split at hr
             ·rw[fK] at hr;exact hr
             ·cases hr
            have:=j7.sl (X:=cx F Pr E o w) false sz' ((rows.drop l).take (u-l)) (A.map (·.add (l*sz'))) (m'-l) (fun i j=>vs (l+i) j) (by rw[hL];omega) (fun i r hr=>k2 _ r (key i r hr)) ?_ (fun i j r t hr ht=>k4 _ _ r t (key i r hr) ht) (fun i j r t hr ht=>k5 _ _ r t (key i r hr) ht)
            ·rw[hL] at this;exact this
            ·intro i j r t hr ht;obtain⟨ad,rfl,hu,hc⟩:=k3 _ _ r t (key i r hr) ht;refine⟨_,rfl,by rw[kL];exact hu, ?_⟩;rw[add_add,←hc];congr 2;rw[Nat.add_mul];omega
         ·cases h
        ·rename_i id ct off len';split at h
         ·rename_i ob hg;split at h
          ·rename_i hcd;obtain⟨hver,hbx,hse⟩:=hcd;simp only[lenOf,aH] at hlen;subst hlen;split at h
           ·rename_i hlu;cases h;refine dz R hn.mX hrun (.c _ _ ?_);rw[←hlu.1,Nat.sub_self];exact .empty _ _ _ _
           ·rename_i hlu;cases h;refine dz R hn.mX hrun (.c _ _ ?_);generalize hq:Value.slice A len' m'=q at hr;cases hr with
            |row _ _ _ _ cap sz2 b hE hfit ho=>
             cases hq;obtain⟨e1,_⟩:=mC R hg hver hE;have e2:sz2=sz:=by rw[e1,hse]
             subst e2;have r0:=j7.row (X:=cx F Pr E o w) id ct (off+l) (u-l) cap sz2 b hE (by omega) (by omega);rw[show cap-(off+l)=cap-off-l from by omega,Nat.add_mul,←add_add] at r0;by_cases hl0:cap-off=l
             ·rw[if_pos hl0];have q1:l=0:=by omega
              rw[q1,Nat.zero_mul,add_zero] at r0;rw[q1];exact r0
             ·rw[if_neg hl0];exact r0
            |oi _ _ hE=>
             cases hq;have:u=0:=by omega
             have:l=0:=by omega
             subst u l;exact .oi _ _ hE
          ·cases h
         ·cases h
      ·cases h
     ·cases h
    ·cases h
   ·cases h
  ·cases hok
 |_=>rw[hop] at hok;simp[gF] at hok
theorem Gz(R:Rel F Pr w0 lb N E n t o a w){nn:Nat}{n':Nat→Prop}(hn:Fr n nn n'){cf:cI}{d sz:Nat}{x:O}{lo hi:Option O}{oper:Oper}(hok:gF P F (.yc sz x lo hi) oper.op=true){v:V}{gf:List (Nat×Ob)}
  (h:act cf nn d t o (.yc sz x lo hi)=some (v,gf)):qv P F Pr w0 lb N n' t o a w oper v gf:=by
 cases hop:oper.op with
 |slice ty y lo' hi' mx'=>
  rw[hop] at hok;cases mx' with
  |some _=>simp[gF] at hok
  |none=>
  simp only[gF] at hok;split at hok
  ·rename_i e he;simp only[aj,beq_iff_eq] at hok;obtain⟨⟨⟨hsz,hx⟩,hlo⟩,hhi⟩:=hok;simp only[act] at h;split at h
   ·rename_i id ct off len hz;split at h
    ·rename_i ob l u hg h1 h2;split at h
     ·rename_i hcd;obtain⟨hver,hbx,hse,hlu,hfit'⟩:=hcd;have hr:=fw R hx hz;generalize hv:a.eval y=val at hr;cases hr with
      |row _ _ _ _ cap sz2 b hE hfit ho=>
       obtain⟨e1,hob⟩:=mC R hg hver hE;have e2:sz2=sz:=by rw[e1,hse]
       subst e2;have hcap:=hob.len;have hb:(Instr.sliceBounds true len (cap-off) (lo'.map a.eval) (hi'.map a.eval) none).run P w= .ok (l,u,cap-off) w:=by
        rcases mQ R hlo h1 with⟨rfl,rfl,_⟩|⟨y1,k1,rfl,e1,_⟩<;>rcases mQ R hhi h2 with⟨rfl,rfl,_⟩|⟨y2,k2,rfl,e2,_⟩
        ·simp[Instr.sliceBounds]
        ·simp[Instr.sliceBounds,e2,run_sliceBound (show u≤cap-off by omega)]
        ·simp[Instr.sliceBounds,e1,run_sliceBound (show l≤u by omega)]
        ·simp[Instr.sliceBounds,e1,e2,run_sliceBound (show l≤u by omega),run_sliceBound (show u≤cap-off by omega)]
       have hrun:(execOp a.eval oper).run P w= .ok (.value (.slice (if cap-off=l then some ((gK b).add (off*sz2)) else(some ((gK b).add (off*sz2))).map (·.add (l*sz2))) (u-l) (cap-off-l))) w:=by
        simp[execOp,hop,hv,Instr.sliceAt,run_underlying (jX he),Instr.slice,hb,iq hsz]
       split at h
       ·rename_i hlu2;cases h;refine dz R hn.mX hrun (.c _ _ ?_);rw[←hlu2.1,Nat.sub_self];exact .empty _ _ _ _
       ·rename_i hlu2;cases h;refine dz R hn.mX hrun (.c _ _ ?_);have r0:=j7.row (X:=cx F Pr E o w) id ct (off+l) (u-l) cap sz2 b hE (by omega) (by omega);rw[show cap-(off+l)=cap-off-l from by omega,Nat.add_mul,←add_add] at r0;by_cases hl0:cap-off=l
        ·rw[if_pos hl0];have q1:l=0:=by omega
         rw[q1,Nat.zero_mul,add_zero] at r0;rw[q1];exact r0
        ·rw[if_neg hl0];exact r0
      |oi _ _ hE=>
       have hrows:ob.rows=[]:=by
        obtain⟨_,l,hl,hr⟩:=R.oc id ob hg;have hE':E ct=some .nil:=hE;rw[hver,hE'] at hl;cases hl;exact hr.1
       have hu:u=0:=by rw[hrows] at hfit';simpa using hfit'
       have hl:l=0:=by omega
       have hb:(Instr.sliceBounds true 0 0 (lo'.map a.eval) (hi'.map a.eval) none).run P w= .ok (l,u,0) w:=by
        rcases mQ R hlo h1 with⟨rfl,q1,_⟩|⟨y1,k1,rfl,e1,_⟩<;>rcases mQ R hhi h2 with⟨rfl,q2,_⟩|⟨y2,k2,rfl,e2,_⟩
        ·simp[Instr.sliceBounds,hu,hl]
        ·simp[Instr.sliceBounds,e2,run_sliceBound (show u≤0 by omega),hl]
        ·simp[Instr.sliceBounds,e1,run_sliceBound (show l≤0 by omega),hu]
        ·simp[Instr.sliceBounds,e1,e2,run_sliceBound (show l≤u by omega),run_sliceBound (show u≤0 by omega)]
       subst hu hl;have hrun:(execOp a.eval oper).run P w= .ok (.value (.slice none 0 0)) w:=by
        simp[execOp,hop,hv,Instr.sliceAt,run_underlying (jX he),Instr.slice,hb,iq hsz]
       simp at h;obtain⟨rfl,rfl⟩:=h;exact dz R hn.mX hrun (.c _ _ (.oi _ _ hE))
     ·cases h
    ·cases h
   ·cases h
  ·cases hok
 |_=>rw[hop] at hok;simp[gF] at hok
theorem Rel.over(R:Rel F Pr w0 lb N E n t o a w){w':World}{E':Nat→Option Loc}{n':Nat→Prop}{id:Nat}{ob ob':Ob}{b cap p:Nat}{vs:List Value}(hg:get o id=some ob)(hwr:ob.w=true)
  (hE:E ob.ct=some (.kP b cap ob.sz)) (hsz:ob'.sz=ob.sz) (hlen:ob'.rows.length≤cap) (hwid:∀(i:Nat) (r:List T),ob'.rows[i]? =some r→r.length=ob.sz)
  (hcl:ob'.bx=false→∀(i j:Nat) (r:List T) (t:T),ob'.rows[i]? =some r→r[j]? =some t→ff t)
  (hfit:p+vs.length≤cap*ob.sz) (h1:∀v∈vs,v.oneCell'=true)
  (hc:∀(i j:Nat) (r:List T) (t:T),ob'.rows[i]? =some r→r[j]? =some t→
   (p≤i*ob.sz+j∧i*ob.sz+j<p+vs.length∧∀v,vs[i*ob.sz+j-p]? =some v→j7 (cx F Pr E o w) t v)∨
   ((i*ob.sz+j<p∨p+vs.length≤i*ob.sz+j)∧∃r0,ob.rows[i]? =some r0∧r0[j]? =some t))
  (hrun:(storeCells ((gK b).add p) vs).run P w= .ok () w')
  (hn:∀k,n k→n' k) (hEE:∀ct l,E ct=some l→E' ct=some l) (hfresh:∀ct l,E' ct=some l→n' ct) (hl:E' ob'.ct=some (.kP b cap ob.sz)):
  Rel F Pr w0 lb N E' n' t ((id,ob')::o) a w'∧mH (cx F Pr E o w) (cx F Pr E' ((id,ob')::o) w'):=by
 obtain⟨_,hl0,hwid0,_,cs,e,fr,m1,m2,m3,m4⟩:=mC R hg rfl hE;have m1':w.heap[b]? =some (.cells cs e fr):=m1;obtain⟨w2,cs',g1,g2,g3,g4,g5,g6,g7,g8,g9⟩:=ke (P:=P) vs 0 p cs w m1' (by rw[m2];omega) m3 h1;rw[hrun] at g1;cases g1;simp only[Nat.add_zero] at g9;have hbl:b<w.heap.size:=(R.place id ob b cap ob.sz hg hE).1;refine R.KW g2 g3 g4 (by omega) hn hEE hfresh ?_ (l':= .kP b cap ob.sz) hl ?_ ?_
 ·intro k hk hno;by_cases e:k=b
  ·subst e;exact(hno ob cap ob.sz hg hwr hE).elim
  ·exact g6 k e
 ·intro b' cap' sz' hq;cases hq;exact⟨by rw[g5];exact hbl,.inr ⟨ob,cap,ob.sz,hg,hwr,hE⟩⟩
 ·intro K;refine⟨hsz.symm,hlen,by rw[hsz];exact hwid,hcl,cs',e,fr,g7,by rw[g8,hsz];exact m2,by rw[g8];exact m3, ?_⟩;intro i j r t hr ht;rw[hsz,g9];rcases hc i j r t hr ht with⟨q1,q2,q3⟩|⟨q1,r0,q2,q3⟩
  ·rw[if_pos ⟨q1,q2⟩];have hlt:i*ob.sz+j-p<vs.length:=by omega
   exact⟨vs[i*ob.sz+j-p],by simp[hlt],(q3 _ (by simp[hlt])).mono K⟩
  ·rw[if_neg (by omega)];obtain⟨v,hv,hrep⟩:=m4 i j r0 t q2 q3;exact⟨v,hv,hrep.mono K⟩
theorem Fk(R:Rel F Pr w0 lb N E n t o a w){z:T}{val:Value}{rows:List (List T)}(hz:j7 (cx F Pr E o w) z val)(hr:rowsOf o z=some rows):
  ∃A c,val= .slice A rows.length c∧rows.length≤c∧∀sz,(rows≠[]→tz o z=some sz)→(∀(i:Nat) (r:List T),rows[i]? =some r→r.length=sz)∧(∀(i j:Nat) (r:List T) (t:T),rows[i]? =some r→r[j]? =some t→ff t)∧
   ∀(i j:Nat) (r:List T) (t:T),rows[i]? =some r→r[j]? =some t→∃ad v,A=some ad∧w.cell? (ad.add (i*sz+j))=some v∧j7 (cx F Pr E o w) t v:=by
 cases z<;>simp only[rowsOf,reduceCtorEq,aH] at hr
 ·subst hr;cases hz;exact⟨none,0,rfl,Nat.le_refl _,fun sz _=>⟨fun i r h=>by simp at h,fun i j r t h=>by simp at h,fun i j r t h=>by simp at h⟩⟩
 ·rename_i own s rows';subst hr;cases hz with
  |sl _ _ _ A c vs h1 h2 h3 h4 h5=>
   refine⟨A,c,rfl,h1,fun sz hs=> ?_⟩;have hse:∀(i:Nat) (r:List T),rows'[i]? =some r→s=sz:=by
    intro i r hir;have:=hs (by intro q;subst q;simp at hir);simpa [tz] using this
   refine⟨fun i r hir=>by rw[←hse i r hir];exact h2 i r hir,h5,fun i j r t hir hjt=> ?_⟩;obtain⟨ad,rfl,_,hcell⟩:=h3 i j r t hir hjt;exact⟨ad,vs i j,rfl,by rw[←hse i r hir];exact hcell,h4 i j r t hir hjt⟩
 ·rename_i id ct off len;split at hr
  ·rename_i ob hg;split at hr
   ·rename_i hcd;cases hr;obtain⟨hver,hbx,hfit⟩:=hcd;have hlen:((ob.rows.drop off).take len).length=len:=by simp;omega
    have key:∀(i:Nat) (r:List T),((ob.rows.drop off).take len)[i]? =some r→ob.rows[off+i]? =some r:=by
     intro i r hr;rw[b8] at hr;split at hr
     ·rw[fK] at hr;exact hr
     ·cases hr
    rw[hlen];cases hz with
    |row _ _ _ _ cap sz b hE hl ho=>
     obtain⟨e1,h1,h2,hcl,cs,e,fr,m1,m2,m3,m4⟩:=mC R hg hver hE;subst e1;have m1':w.heap[b]? =some (.cells cs e fr):=m1;refine⟨_,_,rfl,by omega,fun sz hs=> ?_⟩;have hse:∀(i:Nat) (r:List T),((ob.rows.drop off).take len)[i]? =some r→ob.sz=sz:=by
      intro i r hir;have:=hs (by intro q;rw[q] at hir;simp at hir);simpa [tz,hg] using this
     refine⟨fun i r hir=>by rw[←hse i r hir];exact h2 _ r (key i r hir),fun i j r t hir hjt=>hcl hbx _ j r t (key i r hir) hjt,fun i j r t hir hjt=> ?_⟩;obtain⟨v,hv,hrep⟩:=m4 _ j r t (key i r hir) hjt;refine⟨_,v,rfl, ?_,hrep⟩;rw[←hse i r hir,add_add,lz,show off*ob.sz+(i*ob.sz+j)=(off+i)*ob.sz+j from by rw[Nat.add_mul];omega];simp[World.cell?,m1',hv]
    |oi _ _ hE=>
     refine⟨none,0,rfl,Nat.le_refl _,fun sz _=>⟨fun i r h=>by simp at h,fun i j r t h=>by simp at h,fun i j r t h=>by simp at h⟩⟩
   ·cases hr
  ·cases hr
theorem qR{sz:Nat}{rows:List (List T)}(hw:∀(i:Nat) (r:List T),rows[i]? =some r→r.length=sz)(hp:0<sz){q:Nat}(hq:q<rows.length*sz):
  ∃i j r t,q=i*sz+j∧rows[i]? =some r∧r[j]? =some t∧rows.flatten[q]? =some t:=by
 have hi:q/sz<rows.length:=by rw[Nat.div_lt_iff_lt_mul hp];exact hq
 have hm:q%sz<sz:=Nat.mod_lt _ hp;have hl:=hw (q/sz) rows[q/sz] (by simp[hi]);have hj:q%sz<rows[q/sz].length:=by rw[hl];exact hm
 have hd:q=q/sz*sz+q%sz:=by rw[Nat.mul_comm];exact(Nat.div_add_mod q sz).symm
 have hfl:=py hw (i:=q/sz) (j:=q%sz) (r:=rows[q/sz]) (t:=rows[q/sz][q%sz]) (by simp[hi]) (by simp[hj]);rw[←hd] at hfl;exact⟨q/sz,q%sz,rows[q/sz],rows[q/sz][q%sz],hd,by simp[hi],by simp[hj],hfl⟩
theorem qE(R:Rel F Pr w0 lb N E n t o a w){z:T}{val:Value}{rows:List (List T)}{sz:Nat}(hz:j7 (cx F Pr E o w) z val)(hr:rowsOf o z=some rows)(hs:rows≠[]→tz o z=some sz)(hp:0<sz):
  ∃A c cs,val= .slice A rows.length c∧(∀(i:Nat) (r:List T),rows[i]? =some r→r.length=sz)∧(∀(i j:Nat) (r:List T) (t:T),rows[i]? =some r→r[j]? =some t→ff t)∧g_ (cx F Pr E o w) rows.flatten cs∧cs.length=rows.length*sz∧
   (∀k,(Builtin.firstCells sz rows.length val).run P {w with drawn:=k}= .ok cs.toArray {w with drawn:=k}):=by
 obtain⟨A,c,rfl,hlc,hm⟩:=Fk R hz hr;obtain⟨hw,hcl,hm⟩:=hm sz hs;have hfl:=lF hw;refine⟨A,c,(List.range (rows.length*sz)).map (fun q=>(A.bind fun ad=>w.cell? (ad.add q)).getD undef),rfl,hw,hcl, ?_,by simp, ?_⟩
 ·refine⟨by simp[hfl],fun q t v ht hv=> ?_⟩;have hq:q<rows.length*sz:=by rw[←hfl];exact(List.getElem?_eq_some_iff.1 ht).1
  obtain⟨i,j,r,t',rfl,h1,h2,h3⟩:=qR hw hp hq;rw[ht] at h3;cases h3;obtain⟨ad,v',rfl,hc,hrep⟩:=hm i j r _ h1 h2;simp only[iM,List.getElem?_range hq,iF,Option.bind_some,hc,jU,aH] at hv;subst hv;exact hrep
 ·intro k;cases rows with
  |nil=>
   cases A with
   |none=>simp[Builtin.firstCells]
   |some ad=>
    rw[run_firstCells_some (P:=P) {w with drawn:=k} sz _ ad _ c [] (by simp) (by simp)]
    simp
  |cons r0 rs=>
   have h0:=hw 0 r0 (by simp);obtain⟨ad,v,rfl,_,_⟩:=hm 0 0 r0 r0[0] (by simp) (by simp[h0,hp]);refine run_firstCells_some (P:=P) {w with drawn:=k} sz _ ad _ c _ (by simp) ?_
   intro q v hv;have hq:q<(r0::rs).length*sz:=by have:=(List.getElem?_eq_some_iff.1 hv).1;simpa using this
   obtain⟨i,j,r,t',rfl,h1,h2,h3⟩:=qR hw hp hq;obtain⟨ad',v',had,hc,hrep⟩:=hm i j r _ h1 h2;cases had;simp only[iM,List.getElem?_range hq,iF,Option.bind_some,hc,jU,aH] at hv;subst hv;exact hc
theorem IX(R:Rel F Pr w0 lb N E n t o a w){nn:Nat}{n':Nat→Prop}(hn:Fr n nn n'){cf:cI}{d:Nat}{x y:O}{oper:Oper}{c:Call}(hop:oper.op= .call c)(hok:sP P F (.max x y) c=true){v:V}{gf:List (Nat×Ob)}
  (h:act cf nn d t o (.max x y)=some (v,gf)):qv P F Pr w0 lb N n' t o a w oper v gf:=by
 obtain⟨cal,as,ats⟩:=c;cases cal with
 |value=>simp[sP] at hok
 |invoke=>simp[sP] at hok
 |builtin b=>
  simp only[sP] at hok;obtain⟨x',y',rfl,h1,hx,hy⟩:=HD hok;have h1:=xV h1;subst h1;simp only[act] at h;split at h
  ·rename_i p q hp hq;simp only[al,aR] at h;obtain⟨r,hr,rfl,rfl⟩:=h;have h2:=fw R hx hp;have h3:=fw R hy hq;unfold max2 at hr;split at hr
   ·split at hr
    ·rename_i hk;subst hk;cases hr;exact dz R hn.mX (by simp[execOp,hop,resolve,invoke,builtin,Builtin.max_,h2.oW,h3.oW,Builtin.max2]) (.c _ _ (.int _ _))
    ·cases hr
   ·rename_i s s';cases hr;have hb:∀a b,jH a b=Op.bytesLess a b:=by
     intro a
     induction a with
     |nil=>intro b;cases b<;>rfl
     |cons c a ih=>intro b;cases b with|nil=>rfl|cons d b=>simp[jH,Op.bytesLess,ih]
    refine dz R hn.mX (val:= .string (if jH s.toList s'.toList then s' else s)) ?_ (.c _ _ (.str _));have hm:(Builtin.max2 (.string s) (.string s')).run P w= .ok (.string (if jH s.toList s'.toList then s' else s)) w:=by
     rw[hb];cases hq2:Op.bytesLess s.toList s'.toList<;>simp[Builtin.max2,Op.stringOp,asBool,hq2]
    simp[execOp,hop,resolve,invoke,builtin,Builtin.max_,h2.qy,h3.qy,hm]
   ·cases hr
  ·cases h
theorem IW(R:Rel F Pr w0 lb N E n t o a w){nn:Nat}{n':Nat→Prop}(hn:Fr n nn n'){cf:cI}{d:Nat}{x y:O}{oper:Oper}{c:Call}(hop:oper.op= .call c)(hok:sP P F (.min x y) c=true){v:V}{gf:List (Nat×Ob)}
  (h:act cf nn d t o (.min x y)=some (v,gf)):qv P F Pr w0 lb N n' t o a w oper v gf:=by
 obtain⟨cal,as,ats⟩:=c;cases cal with
 |value=>simp[sP] at hok
 |invoke=>simp[sP] at hok
 |builtin b=>
  simp only[sP] at hok;obtain⟨x',y',rfl,h1,hx,hy⟩:=HC hok;have h1:=xV h1;subst h1;simp only[act] at h;split at h
  ·rename_i p q hp hq;simp only[al,aR] at h;obtain⟨r,hr,rfl,rfl⟩:=h;have h2:=fw R hx hp;have h3:=fw R hy hq;unfold min2 at hr;split at hr
   ·split at hr
    ·rename_i hk;subst hk;cases hr;exact dz R hn.mX (by simp[execOp,hop,resolve,invoke,builtin,Builtin.min_,h2.oW,h3.oW,Builtin.min2]) (.c _ _ (.int _ _))
    ·cases hr
   ·cases hr
  ·cases h
theorem lP{zero:List T}{v:Value}{X:Cx}(h:g_ X zero v.cells.toList)(hp:0<zero.length)(k:Nat):
  (Builtin.zeroCells v.cells k).toList=(List.replicate k v.cells.toList).flatten:=by
 have hl:v.cells.size=zero.length:=by have:=h.1;simpa using this.symm
 have hpos:0<v.cells.size:=by omega
 apply List.ext_getElem?;intro q;by_cases hq:q<k*v.cells.size
 ·have hi:q/v.cells.size<k:=by rw[Nat.div_lt_iff_lt_mul hpos];exact hq
  have hm:q%v.cells.size<v.cells.size:=Nat.mod_lt _ hpos;have e:∀(k:Nat) (q:Nat),q<k*v.cells.size→(List.replicate k v.cells.toList).flatten[q]? =v.cells.toList[q%v.cells.size]? :=by
   intro k
   induction k with
   |zero=>intro q hq;omega
   |succ k ih=>
    intro q hq;rw[List.replicate_succ,List.flatten_cons];by_cases h1:q<v.cells.size
    ·rw[List.getElem?_append_left (by simpa using h1),Nat.mod_eq_of_lt h1]
    ·rw[List.getElem?_append_right (by simpa using h1),Nat.mod_eq_sub_mod (by omega)];simp only[Array.length_toList];exact ih _ (by rw[Nat.succ_mul] at hq;omega)
  rw[e k q hq];simp[Builtin.zeroCells,iM,List.getElem?_range hq,hm]
 ·have l1:(Builtin.zeroCells v.cells k).toList.length=k*v.cells.size:=by simp[Builtin.zeroCells]
  have l2:(List.replicate k v.cells.toList).flatten.length=k*v.cells.size:=by simp[List.length_flatten,List.map_replicate,List.sum_replicate_nat]
  rw[jn (by omega),jn (by omega)]
theorem nO{zero:List T}{k:Nat}:∀(i:Nat) (r:List T),(List.replicate k zero)[i]? =some r→r.length=zero.length:=by
 intro i r h;rw[List.getElem?_replicate] at h;split at h
 ·cases h;rfl
 ·cases h
theorem pf{zero:List T}{k:Nat}(hz:∀(i:Nat) (t:T),zero[i]? =some t→ff t):∀(i j:Nat) (r:List T) (t:T),(List.replicate k zero)[i]? =some r→r[j]? =some t→ff t:=by
 intro i j r t h ht;rw[List.getElem?_replicate] at h;split at h
 ·cases h;exact hz j t ht
 ·cases h
theorem I3(R:Rel F Pr w0 lb N E n t o a w){nn:Nat}{n':Nat→Prop}(hn:Fr n nn n'){cf:cI}{d:Nat}{zero:List T}{x:O}{oper:Oper}{c:Call}(hop:oper.op= .call c)(hok:sP P F (.EH zero x) c=true){v:V}{gf:List (Nat×Ob)}
  (h:act cf nn d t o (.EH zero x)=some (v,gf)):qv P F Pr w0 lb N n' t o a w oper v gf:=by
 obtain⟨cal,as,ats⟩:=c;cases cal with
 |value=>simp[sP] at hok
 |invoke=>simp[sP] at hok
 |builtin b=>
  simp only[sP] at hok;obtain⟨y,ty,e,rfl,h1,h2,hx,he,hz,hpos⟩:=HF hok;have h1:=El h1;have h2:=El h2;subst h1 h2;have hnone:∀A c,(A=none∨True)→(Builtin.clear_ #[ty] oper.type #[.slice A 0 c]).run P w= .ok (.tuple #[]) w:=by
   intro A c _;cases A<;>simp[Builtin.clear_,run_underlying (jX he)]
  simp only[act] at h;split at h
  ·rename_i hl;cases h;have hr:=fw R hx hl;generalize hv:a.eval y=val at hr;cases hr;exact dz R hn.mX (by simp[execOp,hop,hv,resolve,invoke,builtin,hnone];rfl) (.undef _ (by intro b h;cases h))
  ·rename_i hl;cases h;have hr:=fw R hx hl;generalize hv:a.eval y=val at hr;cases hr;exact dz R hn.mX (by simp[execOp,hop,hv,resolve,invoke,builtin,hnone];rfl) (.undef _ (by intro b h;cases h))
  ·rename_i id ct off len hl;split at h
   ·rename_i ob hg;split at h
    ·rename_i h0;subst h0;cases h;have hr:=fw R hx hl;generalize hv:a.eval y=val at hr;cases hr with
     |row=>exact dz R hn.mX (by simp[execOp,hop,hv,resolve,invoke,builtin,hnone];rfl) (.undef _ (by intro b h;cases h))
     |oi=>exact dz R hn.mX (by simp[execOp,hop,hv,resolve,invoke,builtin,hnone];rfl) (.undef _ (by intro b h;cases h))
    ·rename_i h0;split at h
     ·rename_i hcd;cases h;obtain⟨hver,hw,hbx,hsz,hfit⟩:=hcd;have hr:=fw R hx hl;generalize hv:a.eval y=val at hr;cases hr with
      |row _ _ _ _ cap sz b hE hlc ho=>
       obtain⟨e1,_⟩:=mC R hg hver hE;subst e1;have hE2:E ob.ct=some (.kP b cap ob.sz):=by rw[hver];exact hE
       obtain⟨_,hl0,hwid,hclo,cs,e',fr,m1,m2,m3,m4⟩:=mC R hg rfl hE2;have m1':w.heap[b]? =some (.cells cs e' fr):=m1;obtain⟨zv,hzv,hzr,_,hzc⟩:=oA (P:=P) (X:=cx F Pr E o w) hz;have hzl:=lP hzr hpos len;have hzL:g_ (cx F Pr E o w) (List.replicate len zero).flatten (Builtin.zeroCells zv.cells len).toList:=by rw[hzl];exact hzr.replicate len
       have hlenv:(Builtin.zeroCells zv.cells len).toList.length=len*ob.sz:=by
        rw[←hzL.1,lF nO,hsz];simp
       have hfit2:off*ob.sz+(Builtin.zeroCells zv.cells len).toList.length≤cap*ob.sz:=by
        rw[hlenv,←Nat.add_mul];exact cn _ hlc
       obtain⟨w',cs',g1,_⟩:=ke (P:=P) (Builtin.zeroCells zv.cells len).toList 0 (off*ob.sz) cs w m1' (by rw[m2];omega) m3 hzL.one;have H1:∀(i:Nat) (r:List T),(ob.rows.take off++List.replicate len zero++ob.rows.drop (off+len))[i]? =some r→r.length=ob.sz:=by
        intro i r hr;rw[b4,dB] at hr;split at hr
        ·rw[b8] at hr;split at hr
         ·exact hwid i r hr
         ·cases hr
        ·rw[dB] at hr;split at hr
         ·rw[hsz];exact nO _ r hr
         ·rw[fK] at hr;exact hwid _ r hr
       have H2:∀(i j:Nat) (r:List T) (t:T),(ob.rows.take off++List.replicate len zero++ob.rows.drop (off+len))[i]? =some r→r[j]? =some t→
         (off*ob.sz≤i*ob.sz+j∧i*ob.sz+j<off*ob.sz+(Builtin.zeroCells zv.cells len).toList.length∧∀v,(Builtin.zeroCells zv.cells len).toList[i*ob.sz+j-off*ob.sz]? =some v→j7 (cx F Pr E o w) t v)∨
         ((i*ob.sz+j<off*ob.sz∨off*ob.sz+(Builtin.zeroCells zv.cells len).toList.length≤i*ob.sz+j)∧∃r0,ob.rows[i]? =some r0∧r0[j]? =some t):=by
        intro i j r t hr ht;have hto:(ob.rows.take off).length=off:=by simp;omega
        have hjs:∀r':List T,r'.length=ob.sz→r'[j]? =some t→j<ob.sz:=fun r' h1 h2=>by rw[←h1];exact(List.getElem?_eq_some_iff.1 h2).1
        rw[b4,dB,hto] at hr;split at hr
        ·rename_i hio;rw[b8,if_pos hio] at hr;have:=me hio (hjs r (hwid i r hr) ht);exact .inr ⟨.inl this,r,hr,ht⟩
        ·rename_i hio;rw[dB] at hr;simp only[List.length_replicate] at hr;split at hr
         ·rename_i hil;refine .inl ⟨?_, ?_,fun v hvv=> ?_⟩
          ·have:=cn ob.sz (Nat.le_of_not_lt hio);omega
          ·rw[hlenv,←Nat.add_mul];exact me (by omega) (hjs r (by rw[nO _ r hr,hsz]) ht)
          ·have hf:=py (nO (zero:=zero) (k:=len)) hr ht;refine hzL.2 _ t v hf ?_;rw[←hvv,←hsz];congr 1;obtain⟨k,rfl⟩:∃k,i=off+k:=⟨i-off,by omega⟩
           rw[Nat.add_mul];simp;omega
         ·rename_i hil;rw[fK,show off+len+(i-off-len)=i from by omega] at hr;refine .inr ⟨.inr ?_,r,hr,ht⟩;rw[hlenv,←Nat.add_mul];have:=cn ob.sz (show off+len≤i by omega);omega
       have H3:ob.bx=false→∀(i j:Nat) (r:List T) (t:T),(ob.rows.take off++List.replicate len zero++ob.rows.drop (off+len))[i]? =some r→r[j]? =some t→ff t:=by
        intro hb i j r t hr ht;rw[b4,dB] at hr;split at hr
        ·rw[b8] at hr;split at hr
         ·exact hclo hb i j r t hr ht
         ·cases hr
        ·rw[dB] at hr;split at hr
         ·exact pf hzc _ j r t hr ht
         ·rw[fK] at hr;exact hclo hb _ j r t hr ht
       obtain⟨R2,K⟩:=R.over (n':=n) (ob':={ob with rows:=ob.rows.take off++List.replicate len zero++ob.rows.drop (off+len)}) hg hw hE2 rfl (by simp;omega) H1 H3 hfit2 hzL.one H2 g1 (fun _ h=>h) (fun _ _ h=>h) R.fresh hE2
       ·refine⟨.tuple #[],w',E,.inl ?_,R2.same rfl rfl rfl rfl hn.mX,.undef _ (by intro b h;cases h)⟩;have:(Builtin.clear_ #[ty] oper.type #[.slice (some ((gK b).add (off*ob.sz))) len (cap-off)]).run P w= .ok (.tuple #[]) w':=by
         cases len with
         |zero=>exact(h0 rfl).elim
         |succ len=>simp[Builtin.clear_,run_underlying (jX he),mN hzv,g1]
        simp[execOp,hop,hv,resolve,invoke,builtin,this]
      |oi=>exact(h0 rfl).elim
     ·cases h
   ·cases h
  ·cases h
theorem Cm(s:ByteArray):(my s).flatten=s.data.toList.map fun b=>T.int .u8 b.toNat:=by
 unfold my
 induction s.data.toList with
 |nil=>rfl
 |cons b l ih=>simp only[bu,List.flatten_cons,ih];rfl
theorem extract_all(s:ByteArray):s.extract 0 s.size=s:=by
 apply ByteArray.ext;simp
theorem Dn(R:Rel F Pr w0 lb N E n t o a w){z:T}{val:Value}{ys:List (List T)}{sz:Nat}(hz:j7 (cx F Pr E o w) z val)(hp:0<sz)
  (hys:vf o sz z=some ys):
  ∃cs,(∀(i:Nat) (r:List T),ys[i]? =some r→r.length=sz)∧(∀(i j:Nat) (r:List T) (t:T),ys[i]? =some r→r[j]? =some t→ff t)∧g_ (cx F Pr E o w) ys.flatten cs∧cs.length=ys.length*sz∧(Builtin.lenOf val).run P w= .ok ys.length w∧
   (∀k,(Builtin.firstCells sz ys.length val).run P {w with drawn:=k}= .ok cs.toArray {w with drawn:=k}):=by
 have gen:∀z:T,j7 (cx F Pr E o w) z val→(match rowsOf o z with|some ys=>if ys.isEmpty=true∨tz o z=some sz then some ys else none|none=>none)=some ys→∃cs,(∀(i:Nat) (r:List T),ys[i]? =some r→r.length=sz)∧(∀(i j:Nat) (r:List T) (t:T),ys[i]? =some r→r[j]? =some t→ff t)∧g_ (cx F Pr E o w) ys.flatten cs∧cs.length=ys.length*sz∧(Builtin.lenOf val).run P w= .ok ys.length w∧
   (∀k,(Builtin.firstCells sz ys.length val).run P {w with drawn:=k}= .ok cs.toArray {w with drawn:=k}):=by
  intro z hz hys;have h2:rowsOf o z=some ys∧(ys≠[]→tz o z=some sz):=by
   split at hys
   ·rename_i ys' h;split at hys
    ·rename_i h3;cases hys;refine⟨h,fun hne=>h3.resolve_left (by simpa using hne)⟩
    ·cases hys
   ·cases hys
  obtain⟨A,c,cs,rfl,h3,hcl,h4,h5,h6⟩:=qE (P:=P) R hz h2.1 h2.2 hp;exact⟨cs,h3,hcl,h4,h5,by simp[Builtin.lenOf],h6⟩
 cases z with
 |str s=>
  cases hz;simp only[vf] at hys;split at hys
  ·rename_i h1;subst h1;cases hys;refine⟨s.data.toList.map fun b=> .int .u8 b.toNat, ?_, ?_, ?_,by simp[my], ?_, ?_⟩
   ·intro i r hr;simp only[my,iM,al] at hr;obtain⟨b,_,rfl⟩:=hr;rfl
   ·intro i j r t hr ht;simp only[my,iM,al] at hr;obtain⟨b,_,rfl⟩:=hr;cases j with
    |zero=>simp at ht;subst ht;exact .int _ _
    |succ j=>simp at ht
   ·rw[Cm];refine⟨by simp,fun i t v ht hv=> ?_⟩;simp only[iM,al] at ht hv;obtain⟨b,hb,rfl⟩:=ht;obtain⟨b',hb',rfl⟩:=hv;rw[hb] at hb';cases hb';exact .int _ _
   ·have:(my s).length=s.size:=by simp[my]
    simp[Builtin.lenOf,this]
   ·intro k;have:(my s).length=s.size:=by simp[my]
    rw[this];simp only[Builtin.firstCells,extract_all];simp only[Sem.run_pure];congr 1;apply Array.ext';simp
  ·cases hys
 |_=>exact gen _ hz hys
theorem uX{ty u e:TypeId}{d:TypeDesc}{sz bytes sLen sCap k:Nat}{base:Option Addr}{x zv:Value}{tyr:TypeId}(he:iH P ty=some e)(hsz:ld P e=some sz)(hu:P.underlying u=some d)(hd:∀k,d≠.int k)
  (hb:pS P e=some bytes) (hzv:rD P e=some zv) (hzs:zv.cells.size=sz) (hbytes:bytes≤4096) (hneed:sLen+k≤4294967296) {mX new:Array Value} (hl:(Builtin.lenOf x).run P w= .ok k w)
  (hnew:∀q,(Builtin.firstCells sz k x).run P {w with drawn:=q}= .ok new {w with drawn:=q}) (hold:∀q,(Builtin.firstCells sz sLen (.slice base sLen sCap)).run P {w with drawn:=q}= .ok mX {w with drawn:=q}) (_hos:mX.size=sLen*sz) (_hns:new.size=k*sz):
  (sLen+k≤sCap→∀w',(match base with|some a=>(storeCells (a.add (sLen*sz)) new.toList).run P w= .ok () w'|none=>w'=w)→
   (Builtin.append_ #[ty,u] tyr #[.slice base sLen sCap,x]).run P w= .ok (.slice base (sLen+k) sCap) w')∧
  (sCap<sLen+k→∃cap rest w',sLen+k≤cap∧rest.size=(cap-(sLen+k))*sz∧w'.os=w.os∧w'.tape=w.tape∧w'.output=w.output∧w'.heap=w.heap.push (.cells (mX++new++rest) e)∧
   (Builtin.append_ #[ty,u] tyr #[.slice base sLen sCap,x]).run P w= .ok (.slice (some (gK w.heap.size)) (sLen+k) cap) w'):=by
 obtain⟨i,hi,hib⟩:∃i,P.info? e=some i∧i.bytes=bytes:=by
  unfold pS at hb;cases hi:P.info? e with
  |none=>simp[hi] at hb
  |some i=>exact⟨i,rfl,by simpa [hi] using hb⟩
 have hni:(match d with| .int _=>true|_=>false)=false:=by
  cases d<;>first|rfl|exact absurd rfl (hd _)
 constructor
 ·intro hle w' hst;have hnew0:(Builtin.firstCells sz k x).run P w= .ok new w:=hnew w.drawn;cases base with
  |none=>
   simp only at hst;subst hst;simp[Builtin.append_,run_underlying (jX he),iq hsz,run_underlying hu,hl,hle,hnew0]
  |some ad=>
   simp only at hst;simp[Builtin.append_,run_underlying (jX he),iq hsz,run_underlying hu,hl,hle,hnew0,hst]
 ·intro hlt;have hnle:¬(sLen+k≤sCap):=by omega
  have hfits:Builtin.nextslicecap (sLen+k) sCap*i.bytes≤281474976710656:=by
   refine growslice_fits hlt ?_;rw[hib]
   calc (sLen+k)*bytes≤4294967296*4096:=Nat.mul_le_mul hneed hbytes
    _≤140737488355328:=by decide
  have hfits2:¬(Builtin.nextslicecap (sLen+k) sCap*i.bytes>2^48):=by omega
  have hmax:¬((sLen:Int)+k>IntKind.i64.max):=by
   have:IntKind.i64.max=9223372036854775807:=by decide
   rw[this];omega
  refine⟨sLen+k+w.tape w.drawn (.appendCap (sLen+k) sCap e)%(9223372036854775808-(sLen+k)),Builtin.zeroCells zv.cells (w.tape w.drawn (.appendCap (sLen+k) sCap e)%(9223372036854775808-(sLen+k))),
   w.drew.alloc (.cells (mX++new++Builtin.zeroCells zv.cells (w.tape w.drawn (.appendCap (sLen+k) sCap e)%(9223372036854775808-(sLen+k)))) e),Nat.le_add_right _ _,by simp[Builtin.zeroCells,hzs],rfl,rfl,rfl,rfl, ?_⟩
  have hforced:(Question.appendCap (sLen+k) sCap e).forced=false:=rfl;have hn1:(Builtin.firstCells sz k x).run P w.drew= .ok new w.drew:=hnew (w.drawn+1);have ho1:(Builtin.firstCells sz sLen (.slice base sLen sCap)).run P w.drew= .ok mX w.drew:=hold (w.drawn+1);simp[Builtin.append_,run_underlying (jX he),iq hsz,run_underlying hu,hl,hnle,pU hi,hforced,Question.cut];rw[if_neg (by omega),if_neg (by omega)];simp[ho1,hn1,mN hzv,newRow,gK]
theorem nS{X:Cx}{id ct len cap sz b:Nat}(hE:X.E ct=some (.kP b cap sz))(hl:len≤cap):j7 X (.row id ct 0 len) (.slice (some (gK b)) len cap):=by
 have:=j7.row (X:=X) id ct 0 len cap sz b hE (by omega) (.inr rfl);rw[Nat.zero_mul,add_zero,Nat.sub_zero] at this;exact this
theorem Dx{xs ys:List (List T)}{sz:Nat}(hx:∀(i:Nat) (r:List T),xs[i]? =some r→r.length=sz)(hy:∀(i:Nat) (r:List T),ys[i]? =some r→r.length=sz):
  ∀(i:Nat) (r:List T),(xs++ys)[i]? =some r→r.length=sz:=by
 intro i r h;rw[dB] at h;split at h
 ·exact hx i r h
 ·exact hy _ r h
theorem qx{xs:List (List T)}{sz k:Nat}(hx:∀(i:Nat) (r:List T),xs[i]? =some r→r.length=sz):∀(i:Nat) (r:List T),(xs.take k)[i]? =some r→r.length=sz:=by
 intro i r h;rw[b8] at h;split at h
 ·exact hx i r h
 ·cases h
theorem I8(R:Rel F Pr w0 lb N E n t o a w){nn:Nat}{n':Nat→Prop}(hn:Fr n nn n'){cf:cI}{d sz bytes:Nat}{x y:O}{oper:Oper}{c:Call}(hop:oper.op= .call c)(hok:sP P F (.app sz bytes x y) c=true){v:V}{gf:List (Nat×Ob)}
  (h:act cf nn d t o (.app sz bytes x y)=some (v,gf)):qv P F Pr w0 lb N n' t o a w oper v gf:=by
 obtain⟨cal,as,ats⟩:=c;cases cal with
 |value=>simp[sP] at hok
 |invoke=>simp[sP] at hok
 |builtin b=>
  simp only[sP] at hok;obtain⟨x',y',ty,u,e,dd,rfl,h1,h2,hx,hy,he,hsz,hpos,hb,hu,hd,zv,hzv,hzs⟩:=C1 hok;have h1:=xV h1;have h2:=xV h2;subst h1 h2;simp only[act] at h;split at h
  ·rename_i p q hp hq;split at h
   ·cases h
   ·rename_i ys hys;split at h
    ·rename_i hbytes;have hrx:=fw R hx hp;have hry:=fw R hy hq;obtain⟨cs,hyw,hyc,hyL,hcl,hlen,hnew⟩:=Dn (P:=P) R hry hpos hys;have hexec:∀val w',(Builtin.append_ #[ty,u] oper.type #[a.eval x',a.eval y']).run P w= .ok val w'→(execOp a.eval oper).run P w= .ok (.value val) w':=by
      intro val w' hr;simp[execOp,hop,resolve,invoke,builtin,hr]
     have nilcase:∀id,a.eval x'= .slice none 0 0→ys.length≤4294967296→v= .c (.row id nn 0 ys.length)→∀ob:Ob,ob.ct=nn→ob.sz=sz→ob.bx=false→ob.rows=ys→gf=[(id,ob)]→qv P F Pr w0 lb N n' t o a w oper v gf:=by
      intro id hv hk hvv ob ho1 ho2 ho3 ho4 hup;subst hvv hup;have hgo:=uX (P:=P) (w:=w) (tyr:=oper.type) (base:=none) (sLen:=0) (sCap:=0) he hsz hu hd hb hzv hzs hbytes (by omega) hlen hnew (mX:= #[]) (by intro q;simp[Builtin.firstCells]) (by simp) (by simp[hcl]);rw[←hv] at hgo;by_cases hz:ys.length=0
      ·have hr:=hgo.1 (by omega) w rfl;have hy0:ys=[]:=aY hz;obtain⟨R2,K⟩:=R.Fx id nn n' ob ho1 hn (by rw[ho4,hy0]) ho3;refine⟨.slice none 0 0,w,_,.inl (hexec _ _ (by rw[hr];simp[hz])),R2,.c _ _ ?_⟩;rw[hz];exact .oi id nn (by simp[cx,E1])
      ·obtain⟨cap,rest,w',hcap,hrest,f1,f2,f3,f4,hr⟩:=hgo.2 (by omega);have hcss:(#[]++cs.toArray++rest).size=cap*ob.sz:=by
        simp only[Nat.zero_add] at hcap hrest;simp only[Array.empty_append,Array.size_append,List.size_toArray,hcl,hrest,ho2];rw[←Nat.add_mul];congr 1;omega
       obtain⟨R2,K⟩:=R.wZ id nn n' ob ho1 hn cs (#[]++cs.toArray++rest) e (0,0) cap f1 f2 f3 f4 (by rw[ho4];omega) (by rw[ho4,ho2];exact hyw) (by rw[ho4];exact hyL) hcss (by simp)
        (by intro q v hq;simp only[Array.empty_append];rw[Array.getElem?_append_left (by simpa using(List.getElem?_eq_some_iff.1 hq).1)];simpa using hq) (by rw[ho4];exact fun _=>hyc)
       refine⟨.slice (some (gK w.heap.size)) (0+ys.length) cap,w',_,.inl (hexec _ _ hr),R2,.c _ _ ?_⟩;rw[Nat.zero_add];exact nS (sz:=ob.sz) (b:=w.heap.size) (by simp[cx,E1]) (by omega)
     split at h
     ·
      split at h
      ·rename_i hk;cases h;exact nilcase d (by generalize hv:a.eval x'=val at hrx ⊢;cases hrx;rfl) hk rfl _ rfl rfl rfl rfl rfl
      ·cases h
     ·rename_i id ct len;split at h
      ·rename_i ob hg;split at h
       ·rename_i hcd;obtain⟨hver,hw,hbx,hobs,hlr,hneed⟩:=hcd;cases h;generalize hv:a.eval x'=val at hrx;cases hrx with
        |oi _ _ hE=>
         have hrows:ob.rows=[]:=by
          obtain⟨_,l,hl,hr⟩:=R.oc id ob hg;have hE':E ct=some .nil:=hE;rw[hver,hE'] at hl;cases hl;exact hr.1
         exact nilcase id hv (by omega) (by simp) {ob with ct:=nn,rows:=ob.rows.take 0++ys} rfl hobs hbx (by simp) rfl
        |row _ _ _ _ cap sz' b hE hfit ho=>
         obtain⟨e1,_⟩:=mC R hg hver hE;subst e1;have hE2:E ob.ct=some (.kP b cap ob.sz):=by rw[hver];exact hE
         obtain⟨_,hl0,hwid,hclo,cells,e',fr,m1,m2,m3,m4⟩:=mC R hg rfl hE2;have m1':w.heap[b]? =some (.cells cells e' fr):=m1;have hrT:j7 (cx F Pr E o w) (.row id ct 0 len) (.slice (some ((gK b).add (0*ob.sz))) len (cap-0)):= .row id ct 0 len cap ob.sz b hE hfit ho;have hro:rowsOf o (.row id ct 0 len)=some (ob.rows.take len):=by simp[rowsOf,hg,hver,hbx,hlr]
         obtain⟨A,cc,olds,hAeq,how,hoc,hoL,hol,hold⟩:=qE (P:=P) R hrT hro (sz:=sz) (fun _=>by simp[tz,hg,hobs]) hpos;have htl:(ob.rows.take len).length=len:=by simp;omega
         rw[htl] at hol hold;have hgo:=uX (P:=P) (w:=w) (tyr:=oper.type) (base:=some ((gK b).add (0*ob.sz))) (sLen:=len) (sCap:=cap-0) he hsz hu hd hb hzv hzs hbytes hneed hlen hnew (mX:=olds.toArray) hold (by simp[hol]) (by simp[hcl]);rw[←hv] at hgo;have hwid2:∀(i:Nat) (r:List T),(ob.rows.take len++ys)[i]? =some r→r.length=ob.sz:=Dx (qx hwid) (by rw[hobs];exact hyw);have hcl3:∀(i j:Nat) (r:List T) (t:T),(ob.rows.take len++ys)[i]? =some r→r[j]? =some t→ff t:=by
          intro i j r t hr ht;rw[dB] at hr;split at hr
          ·exact hoc i j r t hr ht
          ·exact hyc _ j r t hr ht
         by_cases hroom:len+ys.length≤cap-0
         ·have hfit2:len*ob.sz+cs.length≤cap*ob.sz:=by
           rw[hcl,←hobs,←Nat.add_mul];exact cn _ (by omega)
          obtain⟨w',cs',g1,_⟩:=ke (P:=P) cs 0 (len*ob.sz) cells w m1' (by rw[m2];omega) m3 hyL.one;have hst:(storeCells (((gK b).add (0*ob.sz)).add (len*sz)) cs.toArray.toList).run P w= .ok () w':=by
           rw[add_add,Nat.zero_mul,Nat.zero_add,←hobs];exact g1
          have hr:=hgo.1 hroom w' hst;have H2:∀(i j:Nat) (r:List T) (t:T),(ob.rows.take len++ys)[i]? =some r→r[j]? =some t→
            (len*ob.sz≤i*ob.sz+j∧i*ob.sz+j<len*ob.sz+cs.length∧∀v,cs[i*ob.sz+j-len*ob.sz]? =some v→j7 (cx F Pr E o w) t v)∨
            ((i*ob.sz+j<len*ob.sz∨len*ob.sz+cs.length≤i*ob.sz+j)∧∃r0,ob.rows[i]? =some r0∧r0[j]? =some t):=by
           intro i j r t hr ht;have hj:j<ob.sz:=by rw[←hwid2 i r hr];exact(List.getElem?_eq_some_iff.1 ht).1
           rw[dB,htl] at hr;split at hr
           ·rename_i hil;rw[b8,if_pos hil] at hr;exact .inr ⟨.inl (me hil hj),r,hr,ht⟩
           ·rename_i hil;have hik:i-len<ys.length:=(List.getElem?_eq_some_iff.1 hr).1;refine .inl ⟨?_, ?_,fun v hvv=> ?_⟩
            ·have:=cn ob.sz (Nat.le_of_not_lt hil);omega
            ·rw[hcl,←hobs,←Nat.add_mul];exact me (by omega) hj
            ·have hf:=py hyw hr ht;refine hyL.2 _ t v hf ?_;rw[←hvv,←hobs];congr 1;obtain⟨k,rfl⟩:∃k,i=len+k:=⟨i-len,by omega⟩
             rw[Nat.add_mul];simp;omega
          obtain⟨R2,K⟩:=R.over (n':=n') (E':=E1 E nn (.kP b cap ob.sz)) (ob':={ob with ct:=nn,rows:=ob.rows.take len++ys}) hg hw hE2 rfl (by simp;omega) hwid2 (fun _=>hcl3) hfit2 hyL.one H2 g1 hn.mX (zX R.fresh (hn.new _ (Nat.le_refl _) (by omega))) (xZ R.fresh hn.mX (hn.add _ (Nat.le_refl _) (by omega))) (by simp[E1]);refine⟨.slice (some ((gK b).add (0*ob.sz))) (len+ys.length) (cap-0),w',_,.inl (hexec _ _ hr),R2,.c _ _ ?_⟩;rw[Nat.zero_mul,add_zero,Nat.sub_zero];exact nS (sz:=ob.sz) (b:=b) (by simp[cx,E1]) (by omega)
         ·obtain⟨ncap,rest,w',hcap,hrest,f1,f2,f3,f4,hr⟩:=hgo.2 (by omega);have hcss:(olds.toArray++cs.toArray++rest).size=ncap*ob.sz:=by
           simp only[Array.size_append,List.size_toArray,hol,hcl,hrest,hobs];rw[←Nat.add_mul,←Nat.add_mul];congr 1;omega
          obtain⟨R2,K⟩:=R.wZ id nn n' {ob with ct:=nn,rows:=ob.rows.take len++ys} rfl hn (olds++cs) (olds.toArray++cs.toArray++rest) e (0,0) ncap f1 f2 f3 f4 (by simp;omega) hwid2
           (by simp only[List.flatten_append];exact hoL.append hyL) hcss (by simp)
           (by intro q v hq;rw[show olds.toArray++cs.toArray=(olds++cs).toArray from by simp,Array.getElem?_append_left (by simpa using(List.getElem?_eq_some_iff.1 hq).1)];simpa using hq) (fun _=>hcl3)
          refine⟨.slice (some (gK w.heap.size)) (len+ys.length) ncap,w',_,.inl (hexec _ _ hr),R2,.c _ _ ?_⟩;exact nS (sz:=ob.sz) (b:=w.heap.size) (by simp[cx,E1]) (by omega)
       ·cases h
      ·cases h
     ·cases h
    ·cases h
  ·cases h
theorem GJ(R:Rel F Pr w0 lb N E n t o a w){nn:Nat}{n':Nat→Prop}(hn:Fr n nn n'){cf:cI}{d sz bytes:Nat}{x y:O}{oper:Oper}{c:Call}(hop:oper.op= .call c)(hok:sP P F (.yk sz bytes x y) c=true){v:V}{gf:List (Nat×Ob)}
  (h:act cf nn d t o (.yk sz bytes x y)=some (v,gf)):qv P F Pr w0 lb N n' t o a w oper v gf:=by
 obtain⟨cal,as,ats⟩:=c;cases cal with
 |value=>simp[sP] at hok
 |invoke=>simp[sP] at hok
 |builtin b=>
  simp only[sP] at hok;rw[Fv] at hok;obtain⟨x',y',ty,u,e,dd,rfl,h1,h2,hx,hy,he,hsz,hpos,hb,hu,hd,zv,hzv,hzs⟩:=C1 hok;have h1:=xV h1;have h2:=xV h2;subst h1 h2;simp only[act] at h;split at h
  ·rename_i id ct len q hp hq;split at h
   ·rename_i ys ob hys hg;split at h
    ·rename_i hcd;obtain⟨hbytes,hver,hw,hbx,hobs,hfits,hneed⟩:=hcd;cases h;have hrx:=fw R hx hp;have hry:=fw R hy hq;obtain⟨cs,hyw,hyc,hyL,hcl,hlen,hnew⟩:=Dn (P:=P) R hry hpos hys;have hexec:∀val w',(Builtin.append_ #[ty,u] oper.type #[a.eval x',a.eval y']).run P w= .ok val w'→(execOp a.eval oper).run P w= .ok (.value val) w':=by
      intro val w' hr;simp[execOp,hop,resolve,invoke,builtin,hr]
     generalize hv:a.eval x'=val at hrx;cases hrx with
     |oi _ _ hE=>
      have hrows:ob.rows=[]:=by
       obtain⟨_,l,hl,hr⟩:=R.oc id ob hg;have hE':E ct=some .nil:=hE;rw[hver,hE'] at hl;cases hl;exact hr.1
      have hy0:ys=[]:=by rw[hrows] at hfits;simpa using hfits
      have hgo:=uX (P:=P) (w:=w) (tyr:=oper.type) (base:=none) (sLen:=0) (sCap:=0) he hsz hu hd hb hzv hzs hbytes (by omega) hlen hnew (mX:= #[]) (by intro q;simp[Builtin.firstCells]) (by simp) (by simp[hcl]);rw[←hv] at hgo;have hr:=hgo.1 (by simp[hy0]) w rfl;have hE3:E ob.ct=some .nil:=by rw[hver];exact hE
      obtain⟨R2,K⟩:=R.KW (n':=n') (id:=id) (ob':={ob with rows:=ob.rows.take 0++ys++ob.rows.drop (0+ys.length)}) rfl rfl rfl (Nat.le_refl _) hn.mX (fun _ _ h=>h) (fun v l h=>hn.mX _ (R.fresh v l h)) (fun b hb _=>rfl) (l':= .nil) hE3 (fun b cap sz h=>by cases h) (fun K=>⟨by simp[hrows,hy0],hbx⟩);refine⟨.slice none 0 0,w,_,.inl (hexec _ _ (by rw[hr];simp[hy0])),R2,.c _ _ ?_⟩;simp only[hy0,dy,Nat.add_zero];exact .oi id ct hE
     |row _ _ _ _ cap sz' b hE hfit ho=>
      obtain⟨e1,_⟩:=mC R hg hver hE;subst e1;have hE2:E ob.ct=some (.kP b cap ob.sz):=by rw[hver];exact hE
      obtain⟨_,hl0,hwid,hclo,cells,e',fr,m1,m2,m3,m4⟩:=mC R hg rfl hE2;have m1':w.heap[b]? =some (.cells cells e' fr):=m1;have hlr:len≤ob.rows.length:=by omega
      have hrT:j7 (cx F Pr E o w) (.row id ct 0 len) (.slice (some ((gK b).add (0*ob.sz))) len (cap-0)):= .row id ct 0 len cap ob.sz b hE hfit ho;have hro:rowsOf o (.row id ct 0 len)=some (ob.rows.take len):=by simp[rowsOf,hg,hver,hbx,hlr]
      obtain⟨A,cc,olds,hAeq,how,hoc,hoL,hol,hold⟩:=qE (P:=P) R hrT hro (sz:=sz) (fun _=>by simp[tz,hg,hobs]) hpos;have htl:(ob.rows.take len).length=len:=by simp;omega
      rw[htl] at hol hold;have hgo:=uX (P:=P) (w:=w) (tyr:=oper.type) (base:=some ((gK b).add (0*ob.sz))) (sLen:=len) (sCap:=cap-0) he hsz hu hd hb hzv hzs hbytes hneed hlen hnew (mX:=olds.toArray) hold (by simp[hol]) (by simp[hcl]);rw[←hv] at hgo;have hal:(ob.rows.take len++ys).length=len+ys.length:=by simp;omega
      have at3:∀(i:Nat) (r:List T),(ob.rows.take len++ys++ob.rows.drop (len+ys.length))[i]? =some r→(i<len∧ob.rows[i]? =some r)∨(len≤i∧i<len+ys.length∧ys[i-len]? =some r)∨(len+ys.length≤i∧ob.rows[i]? =some r):=by
       intro i r hr;rw[dB,hal] at hr;split at hr
       ·rename_i hi;rw[dB,htl] at hr;split at hr
        ·rename_i hil;rw[b8,if_pos hil] at hr;exact .inl ⟨hil,hr⟩
        ·rename_i hil;exact .inr (.inl ⟨by omega,hi,hr⟩)
       ·rename_i hi;rw[fK,show len+ys.length+(i-(len+ys.length))=i by omega] at hr;exact .inr (.inr ⟨by omega,hr⟩)
      have hwid2:∀(i:Nat) (r:List T),(ob.rows.take len++ys++ob.rows.drop (len+ys.length))[i]? =some r→r.length=ob.sz:=by
       intro i r hr;rcases at3 i r hr with⟨_,q⟩|⟨_,_,q⟩|⟨_,q⟩
       ·exact hwid i r q
       ·rw[hobs];exact hyw _ r q
       ·exact hwid i r q
      have hcl3:∀(i j:Nat) (r:List T) (t:T),(ob.rows.take len++ys++ob.rows.drop (len+ys.length))[i]? =some r→r[j]? =some t→ff t:=by
       intro i j r t hr ht;rcases at3 i r hr with⟨_,q⟩|⟨_,_,q⟩|⟨_,q⟩
       ·exact hclo hbx i j r t q ht
       ·exact hyc _ j r t q ht
       ·exact hclo hbx i j r t q ht
      have hroom:len+ys.length≤cap-0:=by omega
      have hfit2:len*ob.sz+cs.length≤cap*ob.sz:=by
       rw[hcl,←hobs,←Nat.add_mul];exact cn _ (by omega)
      obtain⟨w',cs',g1,_⟩:=ke (P:=P) cs 0 (len*ob.sz) cells w m1' (by rw[m2];omega) m3 hyL.one;have hst:(storeCells (((gK b).add (0*ob.sz)).add (len*sz)) cs.toArray.toList).run P w= .ok () w':=by
       rw[add_add,Nat.zero_mul,Nat.zero_add,←hobs];exact g1
      have hr:=hgo.1 hroom w' hst;have H2:∀(i j:Nat) (r:List T) (t:T),(ob.rows.take len++ys++ob.rows.drop (len+ys.length))[i]? =some r→r[j]? =some t→
        (len*ob.sz≤i*ob.sz+j∧i*ob.sz+j<len*ob.sz+cs.length∧∀v,cs[i*ob.sz+j-len*ob.sz]? =some v→j7 (cx F Pr E o w) t v)∨
        ((i*ob.sz+j<len*ob.sz∨len*ob.sz+cs.length≤i*ob.sz+j)∧∃r0,ob.rows[i]? =some r0∧r0[j]? =some t):=by
       intro i j r t hr ht;have hj:j<ob.sz:=by rw[←hwid2 i r hr];exact(List.getElem?_eq_some_iff.1 ht).1
       rcases at3 i r hr with⟨hil,q⟩|⟨hil,hik,q⟩|⟨hik,q⟩
       ·exact .inr ⟨.inl (me hil hj),r,q,ht⟩
       ·refine .inl ⟨?_, ?_,fun v hvv=> ?_⟩
        ·have:=cn ob.sz hil;omega
        ·rw[hcl,←hobs,←Nat.add_mul];exact me (by omega) hj
        ·have hf:=py hyw q ht;refine hyL.2 _ t v hf ?_;rw[←hvv,←hobs];congr 1;obtain⟨k,rfl⟩:∃k,i=len+k:=⟨i-len,by omega⟩
         rw[Nat.add_mul];simp;omega
       ·refine .inr ⟨.inr ?_,r,q,ht⟩;rw[hcl,←hobs,←Nat.add_mul];have:=cn ob.sz hik;omega
      obtain⟨R2,K⟩:=R.over (n':=n') (E':=E) (ob':={ob with rows:=ob.rows.take len++ys++ob.rows.drop (len+ys.length)}) hg hw hE2 rfl (by simp;omega) hwid2 (fun _=>hcl3) hfit2 hyL.one H2 g1 hn.mX (fun _ _ h=>h) (fun v l h=>hn.mX _ (R.fresh v l h)) hE2;refine⟨.slice (some ((gK b).add (0*ob.sz))) (len+ys.length) (cap-0),w',_,.inl (hexec _ _ hr),R2,.c _ _ ?_⟩;rw[Nat.zero_mul,add_zero,Nat.sub_zero];exact nS (sz:=ob.sz) (b:=b) hE (by omega)
    ·cases h
   ·cases h
  ·cases h
theorem AT:∀(vs:List Value) (k off:Nat) (cells:Array Value),off+k+vs.length≤cells.size→
  ((vs.zipIdx k).foldl (fun (cs:Array Value) (p:Value×Nat)=>cs.setIfInBounds (off+p.2) p.1) cells).size=cells.size∧
  ∀q,((vs.zipIdx k).foldl (fun (cs:Array Value) (p:Value×Nat)=>cs.setIfInBounds (off+p.2) p.1) cells)[q]? =if off+k≤q∧q<off+k+vs.length then vs[q-(off+k)]? else cells[q]?
 |[],k,off,cells,h=>by
  refine⟨rfl,fun q=> ?_⟩;rw[if_neg (by simp)];rfl
 |v::vs,k,off,cells,h=>by
  simp only[bV] at h;obtain⟨h1,h2⟩:=AT vs (k+1) off (cells.setIfInBounds (off+k) v) (by simp;omega);simp only[List.zipIdx_cons,eN];refine⟨by rw[h1];simp,fun q=> ?_⟩;rw[h2 q,Array.getElem?_setIfInBounds];by_cases r:off+(k+1)≤q∧q<off+(k+1)+vs.length
  ·rw[if_pos r,if_pos ⟨by omega,by simp only[bV];omega⟩];obtain⟨p,rfl⟩:∃p,q=off+k+(p+1):=⟨q-(off+k)-1,by omega⟩
   rw[show off+k+(p+1)-(off+k)=p+1 from by omega,show off+k+(p+1)-(off+(k+1))=p from by omega];simp
  ·rw[if_neg r];by_cases e:off+k=q
   ·subst e;rw[if_pos rfl,if_pos (by omega),if_pos ⟨Nat.le_refl _,by simp⟩];simp
   ·rw[if_neg e,if_neg (by simp only[bV];omega)]
theorem yT(place:Nat→Option (Nat×Nat))(cells:Array Value)(i:Nat)(v:Value)(rest:List (Nat×Value)){off size:Nat}(hp:place i=some (off,size))(hs:v.cells.size=size)(hf:off+size≤cells.size):
  ∃cells':Array Value,Instr.fill place cells ((i,v)::rest)=Instr.fill place cells' rest∧cells'.size=cells.size∧∀q,cells'[q]? =if off≤q∧q<off+size then v.cells[q-off]? else cells[q]? :=by
 obtain⟨h1,h2⟩:=AT v.cells.toList 0 off cells (by simp[hs];omega);simp only[Nat.add_zero,Array.length_toList,hs] at h1 h2;refine⟨_, ?_,h1,fun q=>by rw[h2 q];simp⟩;simp only[Instr.fill,hp,hs];rw[if_neg (by simp;omega)];congr 1;rw[←Array.foldl_toList,Array.toList_zipIdx]
theorem Fo{X:Cx}{r xs:List T}{off:Nat}{cells cells' vs:Array Value}(h:g_ X r cells.toList)(hx:g_ X xs vs.toList)(hf:off+xs.length≤r.length)(hs:cells'.size=cells.size)
  (hc:∀q,cells'[q]? =if off≤q∧q<off+xs.length then vs[q-off]? else cells[q]?):g_ X (setAt r off xs) cells'.toList:=by
 refine⟨by rw[qD hf,h.1];simp[hs],fun q t v ht hv=> ?_⟩;rw[uy hf] at ht;simp only[Array.getElem?_toList] at hv;rw[hc] at hv;split at ht
 ·rename_i hq;rw[if_pos hq] at hv;exact hx.2 _ t v ht (by simpa using hv)
 ·rename_i hq;rw[if_neg hq] at hv;exact h.2 _ t v ht (by simpa using hv)
theorem xx(R:Rel F Pr w0 lb N E n t o a w){places:List (Nat×Nat)}:∀{parts:List (Nat×Nat×O)} {qs:List (Nat×Operand)} {ps:List (Nat×List T)} {zero:List T} {cells:Array Value},sj F places parts qs=true→
  (∀(p:Nat×List T),p∈ps→True)→
  h_ (fun (p:Nat×Nat×O)=>match qb t p.2.2 with|some cs=>if cs.length=p.2.1∧p.1+p.2.1≤zero.length then some (p.1,cs) else none|none=>none) parts=some ps→
  g_ (cx F Pr E o w) zero cells.toList→∃cells',Instr.fill (places.toArray[·]?) cells (qs.map fun q=>(q.1,a.eval q.2))=some cells'∧g_ (cx F Pr E o w) (wO ps zero) cells'.toList
 |[],[],ps,zero,cells,_,_,h,hr=>by simp[h_] at h;subst h;exact⟨cells,rfl,hr⟩
 |(off,size,x)::parts,(i,y)::qs,ps,zero,cells,hok,_,h,hr=>by
  simp only[sj,aj,beq_iff_eq] at hok;obtain⟨⟨hpl,hx⟩,hrest⟩:=hok;simp only[h_] at h;split at h
  ·rename_i p ps' hp hps;cases h;split at hp
   ·rename_i cs hcs;split at hp
    ·rename_i hcd;cases hp;have hrep:=o8 R hx hcs;have hlen:=hrep.1;have hzl:zero.length=cells.size:=by have:=hr.1;simpa using this
     obtain⟨cells',g1,g2,g3⟩:=yT (places.toArray[·]?) cells i (a.eval y) (qs.map fun q=>(q.1,a.eval q.2)) (off:=off) (size:=size) (by simpa using hpl) (by simp at hlen;omega) (by omega);have hr2:g_ (cx F Pr E o w) (setAt zero off cs) cells'.toList:=Fo hr hrep (by omega) g2 (by intro q;rw[g3 q,hcd.1]);have hl2:(setAt zero off cs).length=zero.length:=qD (by omega);obtain⟨c2,k1,k2⟩:=xx R (zero:=setAt zero off cs) hrest (fun _ _=>trivial) (by rw[hl2];exact hps) hr2;exact⟨c2,by simp only[bu];rw[g1];exact k1,k2⟩
    ·cases hp
   ·cases hp
  ·cases h
 |[],_::_,_,_,_,hok,_,_,_=>by simp[sj] at hok
 |_::_,[],_,_,_,hok,_,_,_=>by simp[sj] at hok
theorem Es(R:Rel F Pr w0 lb N E n t o a w){nn:Nat}{n':Nat→Prop}(hn:Fr n nn n'){cf:cI}{d:Nat}{zero:List T}{parts:List (Nat×Nat×O)}{oper:Oper}(hok:gF P F (.build zero parts) oper.op=true){v:V}{gf:List (Nat×Ob)}
  (h:act cf nn d t o (.build zero parts)=some (v,gf)):qv P F Pr w0 lb N n' t o a w oper v gf:=by
 cases hop:oper.op with
 |build ty qs=>
  rw[hop] at hok;simp only[gF] at hok;split at hok
  ·rename_i fs hfs;split at hok
   ·rename_i places hpl;simp only[aj] at hok;obtain⟨hz,hps⟩:=hok;obtain⟨zv,hzv,hzr,hsz,hzc⟩:=oA (P:=P) (X:=cx F Pr E o w) hz;simp only[act,al,aR] at h;obtain⟨ps,hmp,rfl,rfl⟩:=h;obtain⟨cells',k1,k2⟩:=xx R hps (fun _ _=>trivial) hmp hzr;have hb:P.built ty (qs.map fun q=>(q.1,a.eval q.2)).toList=some cells':=by
     unfold Program.built;obtain⟨it,hit,hitz⟩:∃it,P.info? ty=some it∧it.zero=some zv:=by
      unfold rD at hzv;cases hi:P.info? ty with
      |none=>simp[hi] at hzv
      |some i=>exact⟨i,rfl,by simpa [hi] using hzv⟩
     have hpl':fs.toList.mapM (fun f=>(P.info? f.type).map fun i=>(f.offset,i.size))=some places:=hpl;simp only[hit,pZ hfs,hitz,hpl'];simpa using k1
    have hrun:=run_build (P:=P) w ty (qs.map fun q=>(q.1,a.eval q.2)) cells' hb;refine dz R hn.mX (val:= .agg cells') ?_ ?_
    ·simp only[execOp,hop,Sem.run_bind,hrun];rfl
    ·have:=kQ.KB k2;simpa using this
   ·cases hok
  ·cases hok
 |_=>rw[hop] at hok;simp[gF] at hok
theorem IU(R:Rel F Pr w0 lb N E n t o a w){nn:Nat}{n':Nat→Prop}(hn:Fr n nn n'){cf:cI}{d sz bytes:Nat}{zero:List T}{x:O}{oper:Oper}(hok:gF P F (.EE sz bytes zero x) oper.op=true){v:V}{gf:List (Nat×Ob)}
  (h:act cf nn d t o (.EE sz bytes zero x)=some (v,gf)):qv P F Pr w0 lb N n' t o a w oper v gf:=by
 cases hop:oper.op with
 |makeSlice ty l c=>
  rw[hop] at hok;simp only[gF] at hok;split at hok
  ·rename_i e he;simp only[aj,beq_iff_eq,decide_eq_true_eq] at hok;obtain⟨⟨⟨⟨⟨hsz,hpos⟩,hb⟩,hz⟩,hl⟩,hc⟩:=hok;obtain⟨zv,hzv,hzr,hzs,hzc⟩:=oA (P:=P) (X:=cx F Pr E o w) hz;simp only[act] at h;split at h
   ·rename_i m hm;split at h
    ·rename_i hcd;cases h;obtain⟨k1,hk1⟩:=nP R hl hm;obtain⟨k2,hk2⟩:=nP R hc hm;obtain⟨it,hit,hitz,hits,hitb⟩:∃it,P.info? e=some it∧it.zero=some zv∧it.size=sz∧it.bytes=bytes:=by
      unfold rD at hzv;unfold ld at hsz;unfold pS at hb;cases hi:P.info? e with
      |none=>simp[hi] at hzv
      |some i=>simp[hi] at hzv hsz hb;exact⟨i,rfl,hzv,hsz,hb⟩
     have hzl:zero.length=sz:=by rw[hsz] at hzs;exact(Option.some.inj hzs).symm
     have hcs:zv.cells.size=sz:=by have:=hzr.1;simp at this;omega
     have hrun:=run_make (P:=P) w ty e it zv (jX he) hit hitz k1 k2 (m:Int) (m:Int) (by omega) (Int.le_refl _) (by rw[hitb,←Int.natCast_mul];omega) (by omega);simp only[fB,hits] at hrun;have hfl:=lP hzr (by omega) m;have hL:g_ (cx F Pr E o w) (List.replicate m zero).flatten (Builtin.zeroCells zv.cells m).toList:=by rw[hfl];exact hzr.replicate m
     obtain⟨R2,K⟩:=R.wZ d nn n' {ct:=nn,sz:=sz,w:=true,bx:=false,rows:=List.replicate m zero} rfl hn (Builtin.zeroCells zv.cells m).toList (Builtin.zeroCells zv.cells m) e (0,0) m (w':=w.alloc (.cells (Builtin.zeroCells zv.cells m) e)) rfl rfl rfl rfl
      (by simp) (by intro i r hr;rw[nO i r hr,hzl]) hL (by simp[Builtin.zeroCells,hcs]) (by simp) (by intro q v hq;simpa using hq) (fun _=>pf hzc)
     refine⟨.slice (some (gK w.heap.size)) m m,_,_,.inl ?_,R2,.c _ _ (nS (sz:=sz) (b:=w.heap.size) (by simp[cx,E1]) (Nat.le_refl _))⟩;have e2:madeCells zv.cells (m*sz)=Builtin.zeroCells zv.cells m:=by rw[←hcs];rfl
     rw[e2] at hrun;simp only[execOp,hop,hk1,hk2,Sem.run_bind,hrun];rfl
    ·cases h
   ·cases h
  ·cases hok
 |_=>rw[hop] at hok;simp[gF] at hok
theorem IV(R:Rel F Pr w0 lb N E n t o a w){nn:Nat}{n':Nat→Prop}(hn:Fr n nn n'){cf:cI}{d sz bytes:Nat}{zero:List T}{x y:O}{oper:Oper}(hok:gF P F (.KI sz bytes zero x y) oper.op=true){v:V}{gf:List (Nat×Ob)}
  (h:act cf nn d t o (.KI sz bytes zero x y)=some (v,gf)):qv P F Pr w0 lb N n' t o a w oper v gf:=by
 cases hop:oper.op with
 |makeSlice ty l c=>
  rw[hop] at hok;simp only[gF] at hok;split at hok
  ·rename_i e he;simp only[aj,beq_iff_eq,decide_eq_true_eq] at hok;obtain⟨⟨⟨⟨⟨hsz,hpos⟩,hb⟩,hz⟩,hl⟩,hc⟩:=hok;obtain⟨zv,hzv,hzr,hzs,hzc⟩:=oA (P:=P) (X:=cx F Pr E o w) hz;simp only[act] at h;split at h
   ·rename_i m c' hm hm';split at h
    ·rename_i hcd;cases h;obtain⟨k1,hk1⟩:=nP R hl hm;obtain⟨k2,hk2⟩:=nP R hc hm';obtain⟨it,hit,hitz,hits,hitb⟩:∃it,P.info? e=some it∧it.zero=some zv∧it.size=sz∧it.bytes=bytes:=by
      unfold rD at hzv;unfold ld at hsz;unfold pS at hb;cases hi:P.info? e with
      |none=>simp[hi] at hzv
      |some i=>simp[hi] at hzv hsz hb;exact⟨i,rfl,hzv,hsz,hb⟩
     have hzl:zero.length=sz:=by rw[hsz] at hzs;exact(Option.some.inj hzs).symm
     have hcs:zv.cells.size=sz:=by have:=hzr.1;simp at this;omega
     have hrun:=run_make (P:=P) w ty e it zv (jX he) hit hitz k1 k2 (m:Int) (c':Int) (by omega) (by omega) (by rw[hitb,←Int.natCast_mul];omega) (by omega);simp only[fB,hits] at hrun;have hfl:=lP hzr (by omega) m;have hL:g_ (cx F Pr E o w) (List.replicate m zero).flatten (Builtin.zeroCells zv.cells m).toList:=by rw[hfl];exact hzr.replicate m
     have hpf:∀(q:Nat) (v:Value),(Builtin.zeroCells zv.cells m).toList[q]? =some v→(Builtin.zeroCells zv.cells c')[q]? =some v:=by
      intro q v hq;rw[hfl] at hq;have hfc:=lP hzr (by omega) c';have e3:List.replicate c' zv.cells.toList=List.replicate m zv.cells.toList++List.replicate (c'-m) zv.cells.toList:=by
       rw[List.replicate_append_replicate,show m+(c'-m)=c' from by omega]
      rw[←Array.getElem?_toList,hfc,e3,List.flatten_append];have hq':q<(List.replicate m zv.cells.toList).flatten.length:=by
       rcases Nat.lt_or_ge q (List.replicate m zv.cells.toList).flatten.length with z|z
       ·exact z
       ·rw[jn z] at hq;cases hq
      rw[List.getElem?_append_left hq'];exact hq
     obtain⟨R2,K⟩:=R.wZ d nn n' {ct:=nn,sz:=sz,w:=true,bx:=false,rows:=List.replicate m zero} rfl hn (Builtin.zeroCells zv.cells m).toList (Builtin.zeroCells zv.cells c') e (0,0) c' (w':=w.alloc (.cells (Builtin.zeroCells zv.cells c') e)) rfl rfl rfl rfl
      (by simp;omega) (by intro i r hr;rw[nO i r hr,hzl]) hL (by simp[Builtin.zeroCells,hcs]) (by simp) hpf (fun _=>pf hzc)
     refine⟨.slice (some (gK w.heap.size)) m c',_,_,.inl ?_,R2,.c _ _ (nS (sz:=sz) (b:=w.heap.size) (by simp[cx,E1]) hcd.1)⟩;have e2:madeCells zv.cells (c'*sz)=Builtin.zeroCells zv.cells c':=by rw[←hcs];rfl
     rw[e2] at hrun;simp only[execOp,hop,hk1,hk2,Sem.run_bind,hrun];rfl
    ·cases h
   ·cases h
  ·cases hok
 |_=>rw[hop] at hok;simp[gF] at hok
theorem Fp{X:Cx}{rows:List (List T)}{sz i:Nat}{r:List T}{cells cells' vs:Array Value}(hw:∀(i:Nat) (r:List T),rows[i]? =some r→r.length=sz)(hp:0<sz)(h:g_ X rows.flatten cells.toList)
  (hx:g_ X r vs.toList) (hr:r.length=sz) (hi:i<rows.length) (hs:cells'.size=cells.size) (hc:∀q,cells'[q]? =if i*sz≤q∧q<i*sz+sz then vs[q-i*sz]? else cells[q]?):
  g_ X (rows.set i r).flatten cells'.toList∧∀(k:Nat) (r':List T),(rows.set i r)[k]? =some r'→r'.length=sz:=by
 have hw2:∀(k:Nat) (r':List T),(rows.set i r)[k]? =some r'→r'.length=sz:=by
  intro k r' hk;rw[List.getElem?_set] at hk;split at hk
  ·cases hk;exact hr
  ·exact hw k r' hk
 refine⟨⟨?_,fun q t v ht hv=> ?_⟩,hw2⟩
 ·have h1:=lF hw2;have h2:=h.1;rw[lF hw] at h2;rw[h1];simp at h2 ⊢;omega
 ·have hq:q<(rows.set i r).length*sz:=by rw[←lF hw2];exact(List.getElem?_eq_some_iff.1 ht).1
  obtain⟨k,j,r',t',rfl,h1,h2,h3⟩:=qR hw2 hp hq;rw[ht] at h3;cases h3;simp only[Array.getElem?_toList] at hv;rw[hc] at hv;have hj:j<sz:=by rw[←hw2 k r' h1];exact(List.getElem?_eq_some_iff.1 h2).1
  rw[List.getElem?_set] at h1;split at h1
  ·rename_i e;subst e;cases h1;rw[if_pos (by omega),show i*sz+j-i*sz=j from by omega] at hv;exact hx.2 j t v h2 (by simpa using hv)
  ·rename_i e;have:¬(i*sz≤k*sz+j∧k*sz+j<i*sz+sz):=by
    rcases Nat.lt_or_gt_of_ne e with q|q
    ·have:=cn sz (show i+1≤k from q);rw[Nat.add_mul,Nat.one_mul] at this;omega
    ·have:=me q hj;omega
   rw[if_neg this] at hv;exact h.2 _ t v (py hw h1 h2) (by simpa using hv)
theorem tf(R:Rel F Pr w0 lb N E n t o a w){sz len:Nat}(hp:0<sz):∀{parts:List (Nat×O)} {qs:List (Nat×Operand)} {ps:List (Nat×List T)} {rows:List (List T)} {cells:Array Value},qI F parts qs=true→
  h_ (fun (p:Nat×O)=>match qb t p.2 with|some cs=>if cs.length=sz∧p.1<len then(h_ (cl o) cs).map fun cs=>(p.1,cs) else none|none=>none) parts=some ps→
  rows.length=len→(∀(i:Nat) (r:List T),rows[i]? =some r→r.length=sz)→
  (∀(i j:Nat) (r:List T) (t:T),rows[i]? =some r→r[j]? =some t→ff t)→
  g_ (cx F Pr E o w) rows.flatten cells.toList→∃cells',Instr.fill (fun i=>some (i*sz,sz)) cells (qs.map fun q=>(q.1,a.eval q.2))=some cells'∧
   g_ (cx F Pr E o w) (ps.foldl (fun rs p=>rs.set p.1 p.2) rows).flatten cells'.toList∧(∀(i:Nat) (r:List T),(ps.foldl (fun rs p=>rs.set p.1 p.2) rows)[i]? =some r→r.length=sz)∧
   (ps.foldl (fun rs p=>rs.set p.1 p.2) rows).length=len∧cells'.size=cells.size∧
   (∀(i j:Nat) (r:List T) (t:T),(ps.foldl (fun rs p=>rs.set p.1 p.2) rows)[i]? =some r→r[j]? =some t→ff t)
 |[],[],ps,rows,cells,_,h,hl,hw,hc,hr=>by simp[h_] at h;subst h;exact⟨cells,rfl,hr,hw,hl,rfl,hc⟩
 |(i,x)::parts,(j,y)::qs,ps,rows,cells,hok,h,hl,hw,hc,hr=>by
  simp only[qI,aj,beq_iff_eq] at hok;obtain⟨⟨rfl,hx⟩,hrest⟩:=hok;simp only[h_] at h;split at h
  ·rename_i p ps' hpp hps;cases h;split at hpp
   ·rename_i cs hcs;split at hpp
    ·rename_i hcd;simp only[al] at hpp;obtain⟨cs',hcl,rfl⟩:=hpp;have hrep:=zS R hcl (o8 R hx hcs);have hclo:=th R hcl (o8 R hx hcs);have hlen:=hrep.1;have hlen0:=(o8 R hx hcs).1;have hcl2:cs'.length=sz:=by omega
     have hcells:cells.size=len*sz:=by have:=hr.1;rw[lF hw,hl] at this;simpa using this.symm
     have hfit:i*sz+sz≤cells.size:=by
      rw[hcells];have:=cn sz (show i+1≤len from hcd.2);rw[Nat.add_mul,Nat.one_mul] at this;exact this
     obtain⟨cells',g1,g2,g3⟩:=yT (fun i=>some (i*sz,sz)) cells i (a.eval y) (qs.map fun q=>(q.1,a.eval q.2)) rfl (by simp at hlen;omega) hfit;obtain⟨k1,k2⟩:=Fp hw hp hr hrep hcl2 (by omega) g2 g3;have k3:∀(k j:Nat) (r:List T) (t:T),(rows.set i cs')[k]? =some r→r[j]? =some t→ff t:=by
      intro k j r t hr ht;rw[List.getElem?_set] at hr;split at hr
      ·split at hr
       ·cases hr;exact hclo j t ht
       ·cases hr
      ·exact hc k j r t hr ht
     obtain⟨c2,m1,m2,m3,m4,m5,m6⟩:=tf R hp hrest hps (by simpa using hl) k2 k3 k1;refine⟨c2, ?_,m2,m3,m4,by rw[m5,g2],m6⟩;simp only[bu];rw[g1];exact m1
    ·cases hpp
   ·cases hpp
  ·cases h
 |[],_::_,_,_,_,hok,_,_,_,_,_=>by simp[qI] at hok
 |_::_,[],_,_,_,hok,_,_,_,_,_=>by simp[qI] at hok
theorem CE(R:Rel F Pr w0 lb N E n t o a w){nn:Nat}{n':Nat→Prop}(hn:Fr n nn n'){cf:cI}{d sz len:Nat}{zero:List T}{parts:List (Nat×O)}{oper:Oper}(hok:gF P F (.bF sz len zero parts) oper.op=true){v:V}{gf:List (Nat×Ob)}
  (h:act cf nn d t o (.bF sz len zero parts)=some (v,gf)):qv P F Pr w0 lb N n' t o a w oper v gf:=by
 cases hop:oper.op with
 |buildSlice ty len' qs=>
  rw[hop] at hok;simp only[gF] at hok;split at hok
  ·rename_i e he;simp only[aj,beq_iff_eq,decide_eq_true_eq] at hok;obtain⟨⟨⟨⟨⟨hsz,rfl⟩,hpos⟩,hbig⟩,hz⟩,hel⟩:=hok;obtain⟨zv,hzv,hzr,hzs,hzc⟩:=oA (P:=P) (X:=cx F Pr E o w) hz;have hzl:zero.length=sz:=by rw[hsz] at hzs;exact(Option.some.inj hzs).symm
   have hcs:zv.cells.size=sz:=by have:=hzr.1;simp at this;omega
   simp only[act,al,aR] at h;obtain⟨ps,hmp,rfl,rfl⟩:=h;have hfl:=lP hzr (by omega) len;have hL:g_ (cx F Pr E o w) (List.replicate len zero).flatten (Builtin.zeroCells zv.cells len).toList:=by rw[hfl];exact hzr.replicate len
   obtain⟨cells',g1,g2,g3,g4,g5,g6⟩:=tf R hpos hel hmp (by simp) (by intro i r hr;rw[nO i r hr,hzl]) (pf hzc) hL;have hsize:cells'.size=len*sz:=by rw[g5];simp[Builtin.zeroCells,hcs]
   obtain⟨R2,K⟩:=R.wZ d nn n' {ct:=nn,sz:=sz,w:=true,bx:=false,rows:=ps.foldl (fun rs p=>rs.set p.1 p.2) (List.replicate len zero)} rfl hn cells'.toList cells' e (0,0) len (w':={w with heap:=w.heap.push (.cells cells' e)}) rfl rfl rfl rfl
    (by rw[g4];exact Nat.le_refl _) g3 g2 hsize (by simp) (by intro q v hq;simpa using hq) (fun _=>g6)
   refine⟨.slice (some (gK w.heap.size)) len len,_,_,.inl ?_,R2,.c _ _ (nS (sz:=sz) (b:=w.heap.size) (by simp[cx,E1]) (Nat.le_refl _))⟩;have hrun:(Instr.buildSlice ty len (qs.map fun q=>(q.1,a.eval q.2))).run P w= .ok (.slice (some (gK w.heap.size)) len len) {w with heap:=w.heap.push (.cells cells' e)}:=by
    have hbig':¬(len*sz>2^24):=by omega
    have hfill:Instr.fill (fun i=>some (i*sz,sz)) ((Array.range (len*sz)).map (zv.cells[·%zv.cells.size]!)) (qs.toList.map fun q=>(q.1,a.eval q.2))=some cells':=by
     have:(Array.range (len*sz)).map (zv.cells[·%zv.cells.size]!)=Builtin.zeroCells zv.cells len:=by rw[←hcs];rfl
     rw[this];exact g1
    by_cases hz0:len*sz=0
    ·have hl0:len=0:=by rcases Nat.mul_eq_zero.1 hz0 with q|q<;>omega
     subst hl0;have h0:(Array.range (0*sz)).map (fun x=>(#[]:Array Value)[x%(#[]:Array Value).size]!)=(Array.range (0*sz)).map (zv.cells[·%zv.cells.size]!):=by simp
     simp only[Instr.buildSlice,Sem.run_bind,run_underlying (jX he),Result.andThen_ok,iq hsz,hz0,if_true];rw[show 0*sz=0 from by simp] at*;simp only[Array.toList_map,Array.range_zero',Array.map_empty] at hfill ⊢;simp[hfill,newRow,gK]
    ·simp[Instr.buildSlice,run_underlying (jX he),iq hsz,hbig',hz0,mN hzv,hfill,newRow,gK]
   simp only[execOp,hop,Sem.run_bind,hrun];rfl
  ·cases hok
 |_=>rw[hop] at hok;simp[gF] at hok
theorem GI(R:Rel F Pr w0 lb N E n t o a w){nn:Nat}{n':Nat→Prop}(hn:Fr n nn n'){cf:cI}{d sz len:Nat}{zero:List T}{parts:List (Nat×O)}{oper:Oper}(hok:gF P F (.A3 sz len zero parts) oper.op=true){v:V}{gf:List (Nat×Ob)}
  (h:act cf nn d t o (.A3 sz len zero parts)=some (v,gf)):qv P F Pr w0 lb N n' t o a w oper v gf:=by
 cases hop:oper.op with
 |buildSlice ty len' qs=>
  rw[hop] at hok;simp only[gF] at hok;split at hok
  ·rename_i e he;simp only[aj,beq_iff_eq,decide_eq_true_eq] at hok;obtain⟨⟨⟨⟨⟨hsz,rfl⟩,hpos⟩,hbig⟩,hz⟩,hel⟩:=hok;obtain⟨zv,hzv,hzr,hzs,hzc⟩:=oA (P:=P) (X:=cx F Pr E o w) hz;have hzl:zero.length=sz:=by rw[hsz] at hzs;exact(Option.some.inj hzs).symm
   have hcs:zv.cells.size=sz:=by have:=hzr.1;simp at this;omega
   simp only[act,al,aR] at h;obtain⟨ps,hmp,rfl,rfl⟩:=h;have hfl:=lP hzr (by omega) len;have hL:g_ (cx F Pr E o w) (List.replicate len zero).flatten (Builtin.zeroCells zv.cells len).toList:=by rw[hfl];exact hzr.replicate len
   obtain⟨cells',g1,g2,g3,g4,g5,g6⟩:=tf R hpos hel hmp (by simp) (by intro i r hr;rw[nO i r hr,hzl]) (pf hzc) hL;have hsize:cells'.size=len*sz:=by rw[g5];simp[Builtin.zeroCells,hcs]
   obtain⟨R2,K⟩:=R.wZ d nn n' {ct:=nn,sz:=sz,w:=false,bx:=false,rows:=ps.foldl (fun rs p=>rs.set p.1 p.2) (List.replicate len zero)} rfl hn cells'.toList cells' e (0,0) len (w':={w with heap:=w.heap.push (.cells cells' e)}) rfl rfl rfl rfl
    (by rw[g4];exact Nat.le_refl _) g3 g2 hsize (by simp) (by intro q v hq;simpa using hq) (fun _=>g6)
   refine⟨.slice (some (gK w.heap.size)) len len,_,_,.inl ?_,R2,.c _ _ (nS (sz:=sz) (b:=w.heap.size) (by simp[cx,E1]) (Nat.le_refl _))⟩;have hrun:(Instr.buildSlice ty len (qs.map fun q=>(q.1,a.eval q.2))).run P w= .ok (.slice (some (gK w.heap.size)) len len) {w with heap:=w.heap.push (.cells cells' e)}:=by
    have hbig':¬(len*sz>2^24):=by omega
    have hfill:Instr.fill (fun i=>some (i*sz,sz)) ((Array.range (len*sz)).map (zv.cells[·%zv.cells.size]!)) (qs.toList.map fun q=>(q.1,a.eval q.2))=some cells':=by
     have:(Array.range (len*sz)).map (zv.cells[·%zv.cells.size]!)=Builtin.zeroCells zv.cells len:=by rw[←hcs];rfl
     rw[this];exact g1
    by_cases hz0:len*sz=0
    ·have hl0:len=0:=by rcases Nat.mul_eq_zero.1 hz0 with q|q<;>omega
     subst hl0;have h0:(Array.range (0*sz)).map (fun x=>(#[]:Array Value)[x%(#[]:Array Value).size]!)=(Array.range (0*sz)).map (zv.cells[·%zv.cells.size]!):=by simp
     simp only[Instr.buildSlice,Sem.run_bind,run_underlying (jX he),Result.andThen_ok,iq hsz,hz0,if_true];rw[show 0*sz=0 from by simp] at*;simp only[Array.toList_map,Array.range_zero',Array.map_empty] at hfill ⊢;simp[hfill,newRow,gK]
    ·simp[Instr.buildSlice,run_underlying (jX he),iq hsz,hbig',hz0,mN hzv,hfill,newRow,gK]
   simp only[execOp,hop,Sem.run_bind,hrun];rfl
  ·cases hok
 |_=>rw[hop] at hok;simp[gF] at hok
theorem I7(R:Rel F Pr w0 lb N E n t o a w){nn:Nat}{n':Nat→Prop}(hn:Fr n nn n'){cf:cI}{d:Nat}{x:O}{oper:Oper}(hok:gF P F (.EI x) oper.op=true){v:V}{gf:List (Nat×Ob)}
  (h:act cf nn d t o (.EI x)=some (v,gf)):qv P F Pr w0 lb N n' t o a w oper v gf:=by
 cases hop:oper.op with
 |convert s dt y=>
  rw[hop] at hok;simp only[gF] at hok;split at hok
  ·rename_i e he;simp only[aj,beq_iff_eq] at hok;obtain⟨⟨⟨hu8,hsz⟩,hstr⟩,hx⟩:=hok;simp only[act] at h;split at h
   ·rename_i z hz;split at h
    ·rename_i rows hrows;split at h;rotate_left
     ·cases h
     rename_i hcd;simp only[al,aR] at h;obtain⟨bs,hbs,rfl,rfl⟩:=h;have hr:=fw R hx hz;generalize hv:a.eval y=val at hr;obtain⟨A,c,cs,rfl,hwid,hclo,hL,hcl,hfc⟩:=qE (P:=P) R hr hrows (sz:=1) (fun hne=>hcd.resolve_left (by simpa using hne)) (by decide);have key:∀(rows:List (List T)) (bs:List UInt8),mZ rows=some bs→∃ns:List Int,rows=ns.map (fun m=>[T.int .u8 m])∧bs=ns.map fun m=>UInt8.ofNat m.toNat:=by
      intro rows;unfold mZ
      induction rows with
      |nil=>intro bs h;simp[h_] at h;subst h;exact⟨[],rfl,rfl⟩
      |cons r rows ih=>
       intro bs h;simp only[h_] at h;split at h
       ·rename_i b bs' h1 h2;cases h;obtain⟨ns,e1,e2⟩:=ih bs' h2;split at h1
        ·rename_i m;cases h1;exact⟨m::ns,by simp[e1],by simp[e2]⟩
        ·cases h1
       ·cases h
     obtain⟨ns,e1,e2⟩:=key rows bs hbs;have hst:ByteArray.mk bs.toArray=ns.foldl (fun r m=>r.push (UInt8.ofNat m.toNat)) ByteArray.empty:=by
      subst e2;have:∀(ns:List Int) (s:ByteArray),ns.foldl (fun r m=>r.push (UInt8.ofNat m.toNat)) s=⟨s.data++(ns.map fun m=>UInt8.ofNat m.toNat).toArray⟩:=by
       intro ns
       induction ns with
       |nil=>intro s;simp
       |cons m ns ih=>
        intro s;simp only[eN,ih,bu];congr 1;simp[ByteArray.push]
      rw[this];simp[ByteArray.empty,ByteArray.emptyWithCapacity];rfl
     refine dz R hn.mX (val:= .string ⟨bs.toArray⟩) ?_ (.c _ _ (.str _));have hrun:(convert s dt (.slice A rows.length c)).run P w= .ok (.string ⟨bs.toArray⟩) w:=by
      rw[run_convert_bytes_string (P:=P) w s dt e A rows.length c (jX he) (wc hu8) (sq hstr)];have hns:ns=[]∨ns≠[]:=by by_cases q:ns=[]<;>simp[q]
      rcases hns with q|q
      ·subst q;simp only[bS] at e1 e2;subst e1 e2;cases A with
       |none=>simp[Conv.bytesToString];rfl
       |some ad=>simp[Conv.bytesToString,loadCells,loadCellsFrom];rfl
      ·have hcs:cs=ns.map (Value.int .u8):=by
        apply List.ext_getElem?;intro k;have hfl:rows.flatten=ns.map (fun m=>T.int .u8 m):=by
         rw[e1];clear hwid hclo hL hcl hfc e1 e2 q hst hrows hr hv hcd hbs
         induction ns with
         |nil=>rfl
         |cons m ns ih=>simp only[bu,List.flatten_cons,ih];rfl
        rw[hfl] at hL;by_cases hk:k<ns.length
        ·have hk2:k<cs.length:=by rw[←hL.1];simpa using hk
         have:=hL.2 k (T.int .u8 ns[k]) cs[k] (by simp[hk]) (by simp[hk2]);rw[cw hk2,this.oW];simp[hk]
        ·rw[jn (by rw[←hL.1];simpa using hk),jn (by simpa using hk)]
       have hfc0:(Builtin.firstCells 1 rows.length (.slice A rows.length c)).run P w= .ok cs.toArray w:=hfc w.drawn;cases A with
       |none=>
        simp[Builtin.firstCells] at hfc0;rw[hcs] at hfc0;simp at hfc0;exact(q hfc0).elim
       |some ad=>
        have hload:(loadCells ad rows.length).run P w= .ok (ns.map (Value.int .u8)).toArray w:=by
         simp only[Builtin.firstCells,Nat.mul_one] at hfc0;rw[hfc0,hcs]
        rw[run_bytesToString (P:=P) w ad rows.length c ns hload,hst]
     simp only[execOp,hop,hv,Sem.run_bind,hrun];rfl
    ·cases h
   ·cases h
  ·simp at hok
 |_=>rw[hop] at hok;simp[gF] at hok
end Mx
namespace Mx
open Go
def xy(P:Program):Nat→TypeId→Option (List Kc)
 |0,_=>none
 |d+1,t=>
  match P.underlying t with
  |some .bool=>some [.bool]
  |some (.int _)=>some [.int]
  |some .string=>some [.str]
  |some (.struct fs)=>if P.stoodInHeld t then none else
   fs.toList.foldl (fun (acc:Option (List Kc)) (f:Field)=>match acc with
    |none=>none
    |some l=>if f.name≠ "_" ∧f.offset=l.length then(match xy P d f.type with|some k=>if ld P f.type=some k.length∧0<k.length then some (l++k) else none|none=>none) else none) (some [])
  |_=>none
variable {P:Program} {F:Nat→FuncId} {Pr:Nat→Prop} {w0:World} {lb:Lb} {N:Nat} {E:Nat→Option Loc} {n:Nat→Prop} {t:List (Nat×V)} {o:List (Nat×Ob)} {a:Act} {w:World}
def valOf(P:Program)(t:TypeId)(cs:List Value):Value:=if oa P t=some true then .agg cs.toArray else cs.headD undef
theorem As{ty:TypeId}{cs:Array Value}{off k:Nat}(hk:ld P ty=some k)(h0:0<k)(hf:off+k≤cs.size)(ha:oa P ty=some true∨(oa P ty=some false∧k=1)):
  (part ty cs off).run P w= .ok (valOf P ty ((cs.toList.drop off).take k)) w:=by
 rcases ha with ha|⟨ha,rfl⟩
 ·simp only[part,Sem.run_bind,mO ha,Result.andThen_ok,if_true,iq hk,Sem.run_pure,valOf,ha];congr 2;apply Array.ext';simp[List.take_drop]
 ·have:off<cs.size:=by omega
  simp only[part,Sem.run_bind,mO ha,Result.andThen_ok,aB,if_false,valOf,ha];simp[this,List.take_one,List.head?_drop]
theorem zQ:∀{ks:List Kc} {xs ys:List T} {b:Bool},yW ks xs ys=some b→xs.length=ks.length∧ys.length=ks.length
 |[],[],[],_,_=>⟨rfl,rfl⟩
 |k::ks,x::xs,y::ys,b,h=>by
  simp only[yW] at h;split at h
  ·split at h
   ·rename_i hc;have:=zQ hc;simp[this.1,this.2]
   ·cases h
  ·cases h
 |[],_::_,_,_,h=>by simp[yW] at h
 |[],[],_::_,_,h=>by simp[yW] at h
 |_::_,[],_,_,h=>by simp[yW] at h
 |_::_,_::_,[],_,h=>by simp[yW] at h
theorem Ce{ks ls:List Kc}{xs us ys vs:List T}(hl:xs.length=ks.length)(hl2:ys.length=ks.length){b:Bool}(h:yW (ks++ls) (xs++us) (ys++vs)=some b):∃b1 b2,yW ks xs ys=some b1∧yW ls us vs=some b2∧b=(b1&&b2):=by
 induction ks generalizing xs ys b with
 |nil=>cases xs with
  |nil=>cases ys with
   |nil=>exact⟨true,b,rfl,h,by simp⟩
   |cons=>simp at hl2
  |cons=>simp at hl
 |cons k ks ih=>cases xs with
  |nil=>simp at hl
  |cons x xs=>cases ys with
   |nil=>simp at hl2
   |cons y ys=>
    simp only[List.cons_append,yW] at h;split at h
    ·rename_i b0 h0;split at h
     ·rename_i c hc;cases h;obtain⟨b1,b2,h1,h2,rfl⟩:=ih (by simpa using hl) (by simpa using hl2) hc;exact⟨b0&&b1,b2,by simp[yW,h0,h1],h2,by simp[Bool.and_assoc]⟩
     ·cases h
    ·cases h
theorem AW{d:Nat}{ty:TypeId}{k:List Kc}(h:xy P d ty=some k):oa P ty=some true∨(oa P ty=some false∧k.length=1):=by
 cases d with
 |zero=>simp[xy] at h
 |succ d=>
  simp only[xy] at h;split at h
  ·rename_i hu;cases h;right;simp[oa,hu]
  ·rename_i hu;cases h;right;simp[oa,hu]
  ·rename_i hu;cases h;right;simp[oa,hu]
  ·rename_i hu;left;simp[oa,hu]
  ·cases h
def tg(P:Program)(d:Nat)(acc:Option (List Kc))(f:Field):Option (List Kc):=match acc with
 |none=>none
 |some l=>if f.name≠ "_" ∧f.offset=l.length then(match xy P d f.type with|some k=>if ld P f.type=some k.length∧0<k.length then some (l++k) else none|none=>none) else none
theorem vJ(d:Nat)(fs:List Field):fs.foldl (tg P d) none=none:=by
 induction fs with
 |nil=>rfl
 |cons f fs ih=>exact ih
theorem vI{d:Nat}{l m:List Kc}{f:Field}(h:tg P d (some l) f=some m):∃k,f.name≠ "_" ∧f.offset=l.length∧xy P d f.type=some k∧ld P f.type=some k.length∧0<k.length∧m=l++k:=by
 simp only[tg] at h;split at h
 ·rename_i h1;split at h
  ·rename_i k hk;split at h
   ·rename_i h2;cases h;exact⟨k,h1.1,h1.2,hk,h2.1,h2.2,rfl⟩
   ·cases h
  ·cases h
 ·cases h
theorem yU{d:Nat}:∀{fs:List Field} {l k:List Kc},fs.foldl (tg P d) (some l)=some k→∃m,k=l++m
 |[],l,k,h=>by simp at h;exact⟨[],by simp[h]⟩
 |f::fs,l,k,h=>by
  simp only[eN] at h;cases hs:tg P d (some l) f with
  |none=>rw[hs,vJ] at h;cases h
  |some m=>
   rw[hs] at h;obtain⟨k',_,_,_,_,_,rfl⟩:=vI hs;obtain⟨m,rfl⟩:=yU h;exact⟨k'++m,by simp⟩
theorem tG{X:Cx}{d D:Nat}(ih:∀(ty:TypeId) (k:List Kc) (xs ys:List T) (vx vy:List Value) (b:Bool),xy P d ty=some k→g_ X xs vx→g_ X ys vy→yW k xs ys=some b→
   (Op.equalIn D ty (valOf P ty vx) (valOf P ty vy)).run P w= .ok b w) {xs ys:List T} {vx vy:Array Value} (hx:g_ X xs vx.toList) (hy:g_ X ys vy.toList):
  ∀{fs:List Field} {l m:List Kc} {b:Bool},fs.foldl (tg P d) (some l)=some (l++m)→xs.length=(l++m).length→ys.length=(l++m).length→yW m (xs.drop l.length) (ys.drop l.length)=some b→(Op.eqFields D vx vy fs).run P w= .ok b w
 |[],l,m,b,h,hxl,hyl,he=>by
  simp at h;subst h;simp only[cR] at hxl hyl;rw[List.drop_of_length_le (by omega),List.drop_of_length_le (by omega)] at he;simp[yW] at he;subst he;simp[Op.eqFields]
 |f::fs,l,m,b,h,hxl,hyl,he=>by
  simp only[eN] at h;cases hs:tg P d (some l) f with
  |none=>rw[hs,vJ] at h;cases h
  |some l2=>
   rw[hs] at h;obtain⟨k',h1,h2,h3,h4,h5,rfl⟩:=vI hs;obtain⟨m2,hm2⟩:=yU h;have hm:m=k'++m2:=by rw[b4] at hm2;exact List.append_cancel_left hm2
   subst hm;simp only[aD] at hxl hyl;have ex:xs.drop l.length=(xs.drop l.length).take k'.length++xs.drop (l.length+k'.length):=by rw[←List.drop_drop];exact(da k'.length _).symm
   have ey:ys.drop l.length=(ys.drop l.length).take k'.length++ys.drop (l.length+k'.length):=by rw[←List.drop_drop];exact(da k'.length _).symm
   rw[ex,ey] at he;obtain⟨b1,b2,e1,e2,rfl⟩:=Ce (by simp;omega) (by simp;omega) he;have hxs:vx.size=xs.length:=by have:=hx.1;simpa using this.symm
   have hys:vy.size=ys.length:=by have:=hy.1;simpa using this.symm
   have p1:=As (P:=P) (w:=w) (cs:=vx) (off:=l.length) h4 h5 (by omega) (AW h3);have p2:=As (P:=P) (w:=w) (cs:=vy) (off:=l.length) h4 h5 (by omega) (AW h3);have p3:=ih f.type k' ((xs.drop l.length).take k'.length) ((ys.drop l.length).take k'.length) ((vx.toList.drop l.length).take k'.length) ((vy.toList.drop l.length).take k'.length) b1 h3 ((hx.drop _).take _) ((hy.drop _).take _) e1;have p4:=tG ih hx hy (l:=l++k') (m:=m2) (b:=b2) (by rw[b4];exact h) (by simp;omega) (by simp;omega) (by simpa using e2);simp only[Op.eqFields,ne_eq,h1,not_false_eq_true,if_true,h2,Sem.run_bind,p1,p2,Result.andThen_ok,p3,Sem.run_ite,p4,Sem.run_pure];cases b1<;>simp
theorem zP{k:Kc}{xs ys:List T}{b:Bool}(h:yW [k] xs ys=some b):∃x y,xs=[x]∧ys=[y]∧KR k x y=some b:=by
 obtain⟨l1,l2⟩:=zQ h
 match xs,ys,l1,l2 with
 |[x],[y],_,_=>
  refine⟨x,y,rfl,rfl, ?_⟩;simp only[yW] at h;split at h
  ·rename_i b0 hb0;simp at h;rw[hb0,h]
  ·cases h
theorem p5{X:Cx}{x:T}{vs:List Value}(h:g_ X [x] vs):∃v,vs=[v]∧j7 X x v:=by
 obtain⟨v,vs',rfl,h1,h2⟩:=h.wu;have:=h2.1;cases vs' with
 |nil=>exact⟨v,rfl,h1⟩
 |cons=>simp at this
theorem Fi{X:Cx}:∀(d:Nat) (D:Nat) (ty:TypeId) (k:List Kc) (xs ys:List T) (vx vy:List Value) (b:Bool),d≤D→xy P d ty=some k→g_ X xs vx→g_ X ys vy→yW k xs ys=some b→
  (Op.equalIn D ty (valOf P ty vx) (valOf P ty vy)).run P w= .ok b w:=by
 intro d
 induction d with
 |zero=>intro D ty k xs ys vx vy b _ h;simp[xy] at h
 |succ d ih=>
  intro D ty k xs ys vx vy b hD h hx hy he;obtain⟨D,rfl⟩:∃D',D=D'+1:=⟨D-1,by omega⟩
  simp only[xy] at h;split at h
  ·rename_i hu;cases h;obtain⟨x,y,rfl,rfl,h3⟩:=zP he;obtain⟨v,rfl,h1⟩:=p5 hx;obtain⟨u,rfl,h2⟩:=p5 hy;have ha:oa P ty=some false:=by simp[oa,hu]
   simp only[valOf,ha];unfold KR at h3;split at h3<;>first|contradiction|skip
   cases h3;rw[h1.uf,h2.uf];exact run_equalIn_bool hu D _ _
  ·rename_i k' hu;cases h;obtain⟨x,y,rfl,rfl,h3⟩:=zP he;obtain⟨v,rfl,h1⟩:=p5 hx;obtain⟨u,rfl,h2⟩:=p5 hy;have ha:oa P ty=some false:=by simp[oa,hu]
   simp only[valOf,ha];unfold KR at h3;split at h3<;>first|contradiction|skip
   split at h3
   ·rename_i hk;subst hk;cases h3;rw[h1.oW,h2.oW];exact run_equalIn_int w D ty _ k' _ _ hu
   ·cases h3
  ·rename_i hu;cases h;obtain⟨x,y,rfl,rfl,h3⟩:=zP he;obtain⟨v,rfl,h1⟩:=p5 hx;obtain⟨u,rfl,h2⟩:=p5 hy;have ha:oa P ty=some false:=by simp[oa,hu]
   simp only[valOf,ha];unfold KR at h3;split at h3<;>first|contradiction|skip
   cases h3;rw[h1.qy,h2.qy];have hbd:∀(a b:List UInt8),decide (a=b)=(a==b):=fun a b=>by rw[Bool.eq_iff_iff];simp
   rw[hbd];exact run_equalIn_string w D ty _ _ hu
  ·rename_i fs hu;split at h
   ·cases h
   ·rename_i hs;have ha:oa P ty=some true:=by simp[oa,hu]
    simp only[valOf,ha,if_true];have hf:P.fieldsOf ty=fs:=by simp[Program.fieldsOf,hu]
    rw[run_equalIn_agg w D ty _ _ (by rw[hf];exact hu) (by simpa using hs),hf];obtain⟨l1,l2⟩:=zQ he;exact tG (d:=d) (fun ty k xs ys vx vy b h1 h2 h3 h4=>ih D ty k xs ys vx vy b (by omega) h1 h2 h3 h4) (by simpa using hx) (by simpa using hy) (l:=[]) (m:=k) h (by simpa using l1) (by simpa using l2) (by simpa using he)
  ·cases h
def HB(P:Program)(F:Nat→FuncId)(neg:Bool)(ks:List Kc)(x y:O):Op→Bool
 | .binOp op t x' y' _=>(op==if neg then .neq else .eql)&&(xy P 8 t==some ks)&&(oa P t==some true)&& !(P.eqGuardType P.depth t)&&m7 F x x'&&m7 F y y'
 |_=>false
theorem Dt(R:Rel F Pr w0 lb N E n t o a w){nn:Nat}{n':Nat→Prop}(hn:Fr n nn n'){cf:cI}{d:Nat}{neg:Bool}{ks:List Kc}{x y:O}{oper:Oper}(hok:HB P F neg ks x y oper.op=true)
  {v:V} {gf:List (Nat×Ob)}
  (h:act cf nn d t o (.eqs neg ks x y)=some (v,gf)):qv P F Pr w0 lb N n' t o a w oper v gf:=by
 cases hop:oper.op with
 |binOp op ty x' y' ty'=>
  rw[hop] at hok;simp only[HB,aj,beq_iff_eq,Bool.not_eq_true'] at hok;obtain⟨⟨⟨⟨⟨rfl,he⟩,hagg⟩,hg⟩,hx⟩,hy⟩:=hok;simp only[act] at h;split at h
  ·rename_i xs ys h1 h2;simp only[al,aR] at h;obtain⟨b,hb,rfl,rfl⟩:=h;unfold w7 at h1 h2;split at h1
   ·rename_i ts1 hv1;split at h2
    ·rename_i ts2 hv2;cases h1;cases h2;have r1:=lC R hx hv1;have r2:=lC R hy hv2;generalize e1:a.eval x'=val1 at r1;generalize e2:a.eval y'=val2 at r2;cases r1 with
     |a _ cs1 hn1 hh1=>cases r2 with
      |a _ cs2 hn2 hh2=>
       have q:=Fi (P:=P) (w:=w) 8 10000 ty ks xs ys cs1.toList cs2.toList b (by omega) he ⟨by simpa using hn1,fun i t v h1 h2=>hh1 i t v h1 (by simpa using h2)⟩ ⟨by simpa using hn2,fun i t v h1 h2=>hh2 i t v h1 (by simpa using h2)⟩ hb;simp only[valOf,hagg,if_true] at q;refine dz R hn.mX (val:= .bool (if neg then !b else b)) ?_ (.c _ _ (.bool _));cases neg
       ·simp only[execOp,hop,e1,e2,Sem.run_bind,run_eqGuard_agg w _ ty x' y' cs1 cs2 hg,Result.andThen_ok,aB,if_false,run_eql_struct,q];rfl
       ·simp only[execOp,hop,e1,e2,Sem.run_bind,run_eqGuard_agg w _ ty x' y' cs1 cs2 hg,Result.andThen_ok,if_true,run_neq_struct,q];rfl
    ·cases h2
   ·cases h1
  ·cases h
 |_=>rw[hop] at hok;simp[HB] at hok
end Mx
namespace Mx
open Go
variable {P:Program} {F:Nat→FuncId} {Pr:Nat→Prop} {w0:World} {lb:Lb} {N:Nat} {E:Nat→Option Loc} {n:Nat→Prop} {t:List (Nat×V)} {o:List (Nat×Ob)} {a:Act} {w:World}
theorem j7.Jo{X Y:Cx}(hF:Y.F=X.F)(hc:∀ad v,¬X.U ad.block→X.w.cell? ad=some v→Y.w.cell? ad=some v∧¬Y.U ad.block){t:T}{v:Value}(h:j7 X t v)(k:ff t):j7 Y t v:=by
 induction h with
 |int k n=>exact .int _ _
 |bool b=>exact .bool b
 |str s=>exact .str s
 |aL sz=>exact .aL sz
 |sl own sz rows A c vs h1 hsz hcell hrep hcl ih=>
  refine .sl own sz rows A c vs h1 hsz ?_ (fun i j r t hr ht=>ih i j r t hr ht (hcl i j r t hr ht)) hcl;intro i j r t hr ht;obtain⟨ad,rfl,hu,hw⟩:=hcell i j r t hr ht;have hb:¬X.U (ad.add (i*sz+j)).block:=by rw[kL];exact hu
  have:=hc _ _ hb hw;rw[kL] at this;exact⟨ad,rfl,this.2,this.1⟩
 |row=>cases k
 |oi=>cases k
 |ptr=>cases k
 |vp cells j ad vs hcell hrep hcl ih=>
  refine .vp cells j ad vs ?_ (fun q t ht=>ih q t ht (hcl q t ht)) hcl;intro q t ht;obtain⟨hu,hw⟩:=hcell q t ht;have hb:¬X.U (ad.add q).block:=by rw[kL];exact hu
  have:=hc _ _ hb hw;rw[kL] at this;exact⟨this.2,this.1⟩
 |fn f caps cs hn hrep ih=>
  rw[←hF];cases k with
  |fn _ _ hcl=>exact .fn f caps cs hn fun i t v ht hv=>ih i t v ht hv (hcl i t ht)
theorem j7.scalar{X Y:Cx}{t:T}{v:Value}(h:j7 X t v)(k:t.scalar=true):j7 Y t v:=by
 cases h<;>first|(simp[T.scalar] at k;done)|constructor
theorem kD{α β:Type}{f:α→Option β}:∀{l:List α} {l':List β},h_ f l=some l'→l'.length=l.length
 |[],l',h=>by simp[h_] at h;subst h;rfl
 |x::l,l',h=>by
  simp only[h_] at h;split at h
  ·rename_i y ys hy hys;cases h;simp[kD hys]
  ·cases h
theorem mm{α β:Type}{f:α→Option β}:∀{l:List α} {l':List β},h_ f l=some l'→∀{i:Nat} {y:β},l'[i]? =some y→∃x,l[i]? =some x∧f x=some y
 |[],l',h,i,y,hy=>by simp[h_] at h;subst h;simp at hy
 |x::l,l',h,i,y,hy=>by
  simp only[h_] at h;split at h
  ·rename_i z zs hz hzs;cases h;cases i with
   |zero=>simp at hy;subst hy;exact⟨x,by simp,hz⟩
   |succ i=>
    obtain⟨x',h1,h2⟩:=mm hzs (i:=i) (y:=y) (by simpa using hy);exact⟨x',by simpa using h1,h2⟩
  ·cases h
theorem uE{α β:Type}{f:α→Option β}{l:List α}{l':List β}(h:h_ f l=some l'){i:Nat}{x:α}(hx:l[i]? =some x):∃y,l'[i]? =some y∧f x=some y:=by
 have hi:i<l'.length:=by rw[kD h];exact(List.getElem?_eq_some_iff.1 hx).1
 obtain⟨x',h1,h2⟩:=mm h (i:=i) (y:=l'[i]) (by simp[hi]);rw[hx] at h1;cases h1;exact⟨l'[i],by simp[hi],h2⟩
def Bo(E:Nat→Option Loc)(o:List (Nat×Ob))(id b:Nat):Prop:=∃ob cap sz,get o id=some ob∧E ob.ct=some (.kP b cap sz)
structure Reads (F:Nat→FuncId) (Pr:Nat→Prop) (E:Nat→Option Loc) (o:List (Nat×Ob)) (w:World) (B:List Nat) (X:Cx):Prop where
 hF:X.F=F
 hw:X.w=w
 u:∀b,¬(cx F Pr E o w).U b→¬X.U b
 b:∀id∈B,∀b,Bo E o id b→¬X.U b
theorem Reads.move{B:List Nat}{X:Cx}(D:Reads F Pr E o w B X){x:T}{v:Value}(h:j7 (cx F Pr E o w) x v)(k:ff x):j7 X x v:=
 h.Jo (by rw[D.hF];rfl) (fun ad v hu hc=>⟨by rw[D.hw];exact hc,D.u _ hu⟩) k
theorem Reads.FN(R:Rel F Pr w0 lb N E n t o a w){B:List Nat}{X:Cx}(D:Reads F Pr E o w B X){id:Nat}{ob:Ob}{b cap sz:Nat}(hg:get o id=some ob)(hE:E ob.ct=some (.kP b cap sz))
  (hb:(ob.w=true→id∈B)):¬X.U b:=by
 cases hw:ob.w with
 |true=>exact D.b id (hb hw) b ⟨ob,cap,sz,hg,hE⟩
 |false=>
  refine D.u b ?_;rintro (⟨id',ob',cap',sz',g1,g2,g3⟩|hpr)
  ·have:=R.pA id id' ob ob' b cap sz cap' sz' hg g1 hE g3;subst this;rw[hg] at g1;cases g1;rw[hw] at g2;cases g2
  ·have h1:=R.pr.1 b hpr;rcases (R.place id ob b cap sz hg hE).2 with q|q
   ·omega
   ·exact h1.2 q
theorem Fl(R:Rel F Pr w0 lb N E n t o a w){B:List Nat}{X:Cx}(D:Reads F Pr E o w B X){id ct off len:Nat}{ob:Ob}{v:Value}(hg:get o id=some ob)(hver:ob.ct=ct)(hfit:off+len≤ob.rows.length)
  (hb:ob.w=true→id∈B) (hbx:ob.bx=false) (hr:j7 (cx F Pr E o w) (.row id ct off len) v):j7 X (.sl false ob.sz ((ob.rows.drop off).take len)) v:=by
 cases hr with
 |row _ _ _ _ cap sz b hE hl ho=>
  have hnu:=Reads.FN R D hg (by rw[hver];exact hE) hb;obtain⟨e1,h1,h2,hcl,cs,e,fr,m1,m2,m3,m4⟩:=mC R hg hver hE;subst e1;have hlen:((ob.rows.drop off).take len).length=len:=by simp;omega
  have m1':w.heap[b]? =some (.cells cs e fr):=m1;have key:∀(i j:Nat) (r:List T) (t:T),((ob.rows.drop off).take len)[i]? =some r→r[j]? =some t→∃v,cs[(off+i)*ob.sz+j]? =some v∧j7 (cx F Pr E o w) t v∧ff t:=by
   intro i j r t hr ht;rw[b8] at hr;split at hr
   ·rw[fK] at hr;obtain⟨v,q1,q2⟩:=m4 _ _ r t hr ht;exact⟨v,q1,q2,hcl hbx _ _ r t hr ht⟩
   ·cases hr
  have:j7 X (.sl false ob.sz ((ob.rows.drop off).take len)) (.slice (some ((gK b).add (off*ob.sz))) ((ob.rows.drop off).take len).length (cap-off)):=by
   refine .sl false ob.sz _ _ _ (fun i j=>cs.getD ((off+i)*ob.sz+j) undef) ?_ ?_ ?_ ?_ ?_
   ·rw[hlen];omega
   ·intro i r hr;rw[b8] at hr;split at hr
    ·rw[fK] at hr;exact h2 _ r hr
    ·cases hr
   ·intro i j r t hr ht;obtain⟨v,hv,_⟩:=key i j r t hr ht;refine⟨_,rfl,by rw[kL];exact hnu, ?_⟩;rw[add_add,lz,D.hw];simp only[World.cell?,m1',Option.isSome_none,aB,if_false,dv];rw[show off*ob.sz+(i*ob.sz+j)=(off+i)*ob.sz+j from by rw[Nat.add_mul];omega,hv];rfl
   ·intro i j r t hr ht;obtain⟨v,hv,hrep,hc⟩:=key i j r t hr ht;simp only[dv,hv,jU];exact D.move hrep hc
   ·intro i j r t hr ht;exact(key i j r t hr ht).choose_spec.2.2
  rw[hlen] at this;exact this
 |oi _ _ hE=>simpa using j7.empty (X:=X) false ob.sz none 0
theorem AQ(R:Rel F Pr w0 lb N E n t o a w){B:List Nat}{X:Cx}(D:Reads F Pr E o w B X){x y:T}{v:Value}(h:sV o x=some y)(hb:∀id∈wr o x,id∈B)(hr:j7 (cx F Pr E o w) x v):
  j7 X y v∧ff y:=by
 cases x with
 |ptr=>simp[sV] at h
 |fn=>simp[sV] at h
 |int k m=>simp[sV] at h;subst h;cases hr;exact⟨.int _ _,.int _ _⟩
 |bool b=>simp[sV] at h;subst h;cases hr;exact⟨.bool _,.bool _⟩
 |str s=>simp[sV] at h;subst h;cases hr;exact⟨.str _,.str _⟩
 |aL sz=>simp[sV] at h;subst h;cases hr;exact⟨.empty _ _ _ _,.sl _ _ _ (fun i j r t h=>by simp at h)⟩
 |sl own sz rows=>
  simp[sV] at h;subst h;cases hr with
  |sl _ _ _ A c vs h1 h2 h3 h4 h5=>exact⟨D.move (.sl false _ _ A c vs h1 h2 h3 h4 h5) (.sl _ _ _ h5),.sl _ _ _ h5⟩
 |vp cells j=>
  simp[sV] at h;subst h;cases hr with
  |vp _ _ ad vs h1 h2 h3=>exact⟨D.move (.vp _ _ ad vs h1 h2 h3) (.vp _ _ h3),.vp _ _ h3⟩
 |row id ct off len=>
  simp only[sV] at h;split at h
  ·rename_i ob hg;split at h
   ·rename_i hc;cases h;have:=Fl R D hg hc.1 hc.2.2 (fun hw=>hb id (by simp[wr,hg,hw])) hc.2.1 hr;refine⟨this, ?_⟩;cases this with
    |sl _ _ _ A c vs h1 h2 h3 h4 h5=>exact .sl _ _ _ h5
   ·cases h
  ·cases h
theorem AP(R:Rel F Pr w0 lb N E n t o a w){B:List Nat}{X:Cx}(D:Reads F Pr E o w B X){x y:T}{v:Value}(h:FR o x=some y)(hb:∀id∈Dw o x,id∈B)(hr:j7 (cx F Pr E o w) x v):
  j7 X y v∧ff y:=by
 cases x with
 |ptr id ct i j=>
  simp only[FR] at h;split at h
  ·rename_i ob hg;split at h
   ·rename_i hver;split at h
    ·rename_i r hrow;simp only[al] at h;obtain⟨cells,hm,rfl⟩:=h;simp only[Dw,hg,hrow,iG,jl] at hb;cases hr with
     |ptr _ _ _ _ b cap sz hE=>
      have hnu:¬X.U b:=Reads.FN R D hg (by rw[hver];exact hE) (fun hw=>hb id (.inr (by simp[wr,hg,hw])));obtain⟨e1,h1,h2,hcl,cs,e,fr,m1,m2,m3,m4⟩:=mC R hg hver hE;subst e1;have m1':w.heap[b]? =some (.cells cs e fr):=m1;have key:∀(q:Nat) (t:T),cells[j+q]? =some t→∃u,cs[i*ob.sz+(j+q)]? =some u∧j7 X t u∧ff t:=by
       intro q t ht;obtain⟨x,hx,hix⟩:=mm hm ht;obtain⟨u,hu,hru⟩:=m4 i (j+q) r x hrow hx;obtain⟨k1,k2⟩:=AQ R D hix (fun id' hid=>hb id' (.inl ⟨x,jI hx,hid⟩)) hru;exact⟨u,hu,k1,k2⟩
      refine⟨.vp cells j _ (fun q=>cs.getD (i*ob.sz+(j+q)) undef) ?_ ?_ ?_,.vp _ _ ?_⟩
      ·intro q t ht;obtain⟨u,hu,_⟩:=key q t ht;refine⟨by rw[kL];exact hnu, ?_⟩;rw[add_add,lz,D.hw];simp only[World.cell?,m1',Option.isSome_none,aB,if_false,dv];rw[show i*ob.sz+j+q=i*ob.sz+(j+q) from by omega,hu];rfl
      ·intro q t ht;obtain⟨u,hu,k1,_⟩:=key q t ht;simp only[dv,hu,jU];exact k1
      ·intro q t ht;exact(key q t ht).choose_spec.2.2
      ·intro q t ht;exact(key q t ht).choose_spec.2.2
    ·cases h
   ·cases h
  ·cases h
 |_=>exact AQ R D (by simpa only[FR] using h) (by simpa only[Dw] using hb) hr
theorem zJ(R:Rel F Pr w0 lb N E n t o a w){B:List Nat}{X:Cx}(D:Reads F Pr E o w B X){x y:T}{v:Value}(h:im o x=some y)(hb:∀id∈Bq o x,id∈B)(hr:j7 (cx F Pr E o w) x v):
  j7 X y v:=by
 cases x with
 |fn f caps=>
  simp only[im,al] at h;obtain⟨cs,hm,rfl⟩:=h;simp only[Bq,jl] at hb;cases hr with
  |fn _ _ vs hn hrep=>
   rw[show (cx F Pr E o w).F=X.F from by rw[D.hF];rfl];refine .fn f cs vs (by rw[kD hm,hn]) ?_;intro i t v ht hv;obtain⟨x,hx,hix⟩:=mm hm ht;exact(AP R D hix (fun id hid=>hb id ⟨x,jI hx,hid⟩) (hrep i x v hx hv)).1
 |_=>exact(AP R D (by simpa only[im] using h) (by simpa only[Bq] using hb) hr).1
theorem FQ(R:Rel F Pr w0 lb N E n t o a w){B:List Nat}{X:Cx}(D:Reads F Pr E o w B X){x y:V}{v:Value}(h:x.im o=some y)(hb:∀id∈x.wr o,id∈B)(hr:kQ (cx F Pr E o w) x v):
  kQ X y v:=by
 cases hr with
 |c t v hr=>
  simp only[V.im,al] at h;obtain⟨y,hy,rfl⟩:=h;exact .c _ _ (zJ R D hy hb hr)
 |a ts cs hn hr=>
  simp only[V.im,al] at h;obtain⟨y,hy,rfl⟩:=h;simp only[V.wr,jl] at hb;refine .a _ _ (by rw[kD hy,hn]) fun i t v ht hv=> ?_
  obtain⟨x,hx,hix⟩:=mm hy ht;exact zJ R D hix (fun id hid=>hb id ⟨x,jI hx,hid⟩) (hr i x v hx hv)
 |lM=>simp[V.im] at h
 |undef=>simp[V.im] at h
def uh(lent:List (Nat×Ob))(E0:Nat→Option Loc)(b:Nat):Prop:=∃p ob cap sz,get lent p=some ob∧E0 ob.ct=some (.kP b cap sz)
structure Entry (F:Nat→FuncId) (Pr:Nat→Prop) (E0:Nat→Option Loc) (as:List V) (lent:List (Nat×Ob)) (vals:Array Value) (w:World):Prop where
 n:as.length=vals.size
 args:∀(i:Nat) (v:V) (x:Value),as[i]? =some v→vals[i]? =some x→kQ (cx F Pr E0 lent w) v x
 oc:∀p ob,get lent p=some ob→ob.ct=p∧(om as.length p=true∧p<2000000)∧ob.w=true∧∃l,E0 p=some l∧oJ (cx F Pr E0 lent w) ob l
 place:∀p ob b cap sz,get lent p=some ob→E0 ob.ct=some (.kP b cap sz)→b<w.heap.size
 pA:∀id id' ob ob' b cap sz cap' sz',get lent id=some ob→get lent id'=some ob'→E0 ob.ct=some (.kP b cap sz)→E0 ob'.ct=some (.kP b cap' sz')→id=id'
 fresh:∀ct l,E0 ct=some l→ct<2000000
 pr:(∀b,Pr b→b<w.heap.size∧¬uh lent E0 b)∧CH F (uh lent E0) w
def HQ:Loc→Nat→Value
 | .nil,_=> .slice none 0 0
 | .kP b cap _,len=> .slice (some (gK b)) len cap
inductive tq (X:Cx) (own:Nat→Option Loc) (lent:List (Nat×Ob)) (q:Nat):T→Value→Prop
 |int (k:IntKind) (n:Int):tq X own lent q (.int k n) (.int k n)
 |bool (b:Bool):tq X own lent q (.bool b) (.bool b)
 |str (s:ByteArray):tq X own lent q (.str s) (.string s)
 |own (sz:Nat) (rows:List (List T)) (l:Loc) (h:own q=some l) (hr:oJ X {ct:=0,sz:=sz,w:=true,bx:=false,rows:=rows} l):tq X own lent q (.sl true sz rows) (HQ l rows.length)
 |box (cells:List T) (b cap:Nat) (h:own q=some (.kP b cap cells.length)) (hr:oJ X {ct:=0,sz:=cells.length,w:=true,bx:=true,rows:=[cells]} (.kP b cap cells.length))
   (hc:∀(j:Nat) (t:T),cells[j]? =some t→ff t):tq X own lent q (.vp cells 0) (.pointer (some (gK b)))
 |sh (sz:Nat) (rows:List (List T)) (v:Value) (h:j7 X (.sl false sz rows) v):tq X own lent q (.sl false sz rows) v
 |row (p ct off len:Nat) (v:Value) (h:∀ob,get lent p=some ob→j7 X (.row p p off len) v):tq X own lent q (.row p ct off len) v
def Ez(X:Cx)(own:Nat→Option Loc)(lent:List (Nat×Ob)):Nat→List T→List Value→Prop
 |_,[],[]=>True
 |q,t::ts,v::vs=>tq X own lent q t v∧Ez X own lent (q+1) ts vs
 |_,_,_=>False
def vZ(X:Cx)(own:Nat→Option Loc)(lent:List (Nat×Ob))(q:Nat):V→Value→Prop
 | .c t,v=>tq X own lent q t v
 | .a ts,.agg cs=>Ez X own lent q ts cs.toList
 |_,_=>False
def V.width:V→Nat
 | .c _=>1
 | .a ts=>ts.length
 |_=>0
def vQ(X:Cx)(own:Nat→Option Loc)(lent:List (Nat×Ob)):Nat→List V→List Value→Prop
 |_,[],[]=>True
 |q,t::ts,v::vs=>vZ X own lent q t v∧vQ X own lent (q+t.width) ts vs
 |_,_,_=>False
def yl(X:Cx)(own:Nat→Option Loc)(lent:List (Nat×Ob)):V→Value→Prop
 | .lM vs,.tuple xs=>vQ X own lent 0 vs xs.toList
 |v,x=>vZ X own lent 0 v x
def rx(F:Nat→FuncId)(Pr:Nat→Prop)(E0:Nat→Option Loc)(lent:List (Nat×Ob))(E':Nat→Option Loc)(own:Nat→Option Loc)(w':World):Cx:=
 {w:=w',U:=fun b=>uh lent E0 b∨Pr b∨∃q cap sz,own q=some (.kP b cap sz),E:=E',F:=F}
structure CI (F:Nat→FuncId) (Pr:Nat→Prop) (E0:Nat→Option Loc) (lent:List (Nat×Ob)) (w:World) (E':Nat→Option Loc) (own:Nat→Option Loc) (res:V) (after:List (Nat×Ob)) (val:Value) (w':World):Prop where
 os:w'.os=w.os
 tape:w'.tape=w.tape
 output:w'.output=w.output
 size:w.heap.size≤w'.heap.size
 frame:∀b,b<w.heap.size→¬uh lent E0 b→w'.heap[b]? =w.heap[b]?
 ext:∀ct l,E0 ct=some l→E' ct=some l
 fresh:∀q b cap sz,own q=some (.kP b cap sz)→(w.heap.size≤b∨∃p ob cap' sz',get lent p=some ob∧get after p=none∧E0 ob.ct=some (.kP b cap' sz'))∧b<w'.heap.size
 pA:∀q q' b cap sz cap' sz',own q=some (.kP b cap sz)→own q'=some (.kP b cap' sz')→q=q'
 res:yl (rx F Pr E0 lent E' own w') own lent res val
 oc:∀p ob ob' l,get lent p=some ob→get after p=some ob'→E0 p=some l→oJ (rx F Pr E0 lent E' own w') {ob with rows:=ob'.rows} l∧
  ∀(i j:Nat) (r:List T) (t:T),ob'.rows[i]? =some r→r[j]? =some t→ff t
def r_(P:Program)(F:Nat→FuncId)(cf:cI):Prop:=
 ∀f as lent res after,cf f as lent=some (res,after)→yf P F f=true∧∀Pr E0 vals w,Entry F Pr E0 as lent vals w→
  Calls P (F f) vals w fun e w'=>∃val E' own,e= .returned val∧CI F Pr E0 lent w E' own res after val w'
theorem get_mem{α:Type}:∀{l:List (Nat×α)} {k:Nat} {v:α},get l k=some v→(k,v)∈l
 |[],_,_,h=>by simp[get] at h
 |(k',v')::l,k,v,h=>by
  simp only[get] at h;split at h
  ·rename_i e;cases h;subst e;exact bl ..
  ·exact bo _ (get_mem h)
theorem tX{α:Type}:∀{l:List (Nat×α)} {k:Nat} {v:α},(l.map (·.1)).Nodup→(k,v)∈l→get l k=some v
 |[],_,_,_,h=>by simp at h
 |(k',v')::l,k,v,hn,h=>by
  simp only[bu,List.nodup_cons] at hn;rcases List.mem_cons.1 h with e|e
  ·cases e;simp[get]
  ·have:k≠k':=fun q=>hn.1 (by subst q;exact iD (f:=(·.1)) e)
   simp only[get,if_neg this];exact tX hn.2 e
theorem oX{α β:Type}{f:α→β}:∀{l:List α},(l.map f).Nodup→∀{x y:α},x∈l→y∈l→f x=f y→x=y
 |[],_,x,_,h,_,_=>by simp at h
 |z::l,hn,x,y,hx,hy,e=>by
  simp only[bu,List.nodup_cons] at hn;rcases List.mem_cons.1 hx with rfl|hx'<;>rcases List.mem_cons.1 hy with rfl|hy'
  ·rfl
  ·exact(hn.1 (by rw[e];exact iD hy')).elim
  ·exact(hn.1 (by rw[←e];exact iD hx')).elim
  ·exact oX hn.2 hx' hy' e
def tr(o:List (Nat×Ob))(l:Nat×Nat×Ob):Prop:=
 ∃b,get o l.2.1=some b∧b.w=true∧l.2.2.ct=l.1∧l.2.2.sz=b.sz∧l.2.2.w=true∧l.2.2.bx=b.bx∧(l.2.2.rows=b.rows∧b.bx=false∨h_ (fun r=>h_ (cl o) r) b.rows=some l.2.2.rows)
theorem w8{p id:Nat}{v v':V}{ob:Ob}{x:Value}{X:Cx}(h:nF o p v=some (v',id,ob))(hr:kQ (cx F Pr E o w) v x)(hE:∀b,get o id=some b→X.E p=E b.ct):
  tr o (p,id,ob)∧kQ X v' x:=by
 unfold nF at h;split at h
 ·rename_i id' ct;split at h
  ·rename_i b hg;split at h
   ·rename_i hc;simp only[al,aR] at h;obtain⟨rows,hm,rfl,rfl,rfl⟩:=h;refine⟨⟨b,hg,hc.2.1,rfl,rfl,hc.2.1,rfl,.inr hm⟩,.c _ _ ?_⟩;cases hr with
    |c _ _ hr=>
     cases hr with
     |ptr _ _ _ _ bk cap sz hE'=>exact .ptr p p 0 0 bk cap sz ((hE b hg).trans (by rw[hc.1];exact hE'))
   ·cases h
  ·cases h
 ·rename_i id' ct len;split at h
  ·rename_i b hg;split at h
   ·rename_i hc;simp only[aH,aR] at h;obtain⟨rfl,rfl,rfl⟩:=h;refine⟨⟨b,hg,hc.2.1,rfl,rfl,hc.2.1,rfl,.inl ⟨rfl,hc.2.2.1⟩⟩,.c _ _ ?_⟩;cases hr with
    |c _ _ hr=>
     cases hr with
     |row _ _ _ _ cap sz bk hE' hl ho=>exact .row p p 0 len cap sz bk ((hE b hg).trans (by rw[hc.1];exact hE')) hl ho
     |oi _ _ hE'=>exact .oi p p ((hE b hg).trans (by rw[hc.1];exact hE'))
   ·cases h
  ·cases h
 ·cases h
theorem s5.move{X Y:Cx}{ob ob':Ob}{b cap:Nat}(h:s5 X ob b cap)(hh:Y.w.heap[b]? =X.w.heap[b]?)(h1:ob'.rows=ob.rows)(h2:ob'.sz=ob.sz)(hc:ob'.bx=false→∀(i j:Nat) (r:List T) (t:T),ob'.rows[i]? =some r→r[j]? =some t→ff t)
  (hr:∀(i j:Nat) (r:List T) (t:T) (v:Value),ob.rows[i]? =some r→r[j]? =some t→j7 X t v→j7 Y t v):s5 Y ob' b cap:=by
 obtain⟨hl,hw,hcl,cs,e,fr,g1,g2,g3,g4⟩:=h;refine⟨by rw[h1];exact hl,by rw[h1,h2];exact hw,hc,cs,e,fr,hh.trans g1,by rw[h2];exact g2,g3, ?_⟩;rw[h1,h2];intro i j r t hi ht;obtain⟨v,q1,q2⟩:=g4 i j r t hi ht;exact⟨v,q1,hr i j r t v hi ht q2⟩
theorem FD(R:Rel F Pr w0 lb N E n t o a w){B:List Nat}{X:Cx}(D:Reads F Pr E o w B X){l:Nat×Nat×Ob}(h:tr o l):∃b loc,get o l.2.1=some b∧E b.ct=some loc∧oJ X l.2.2 loc:=by
 obtain⟨b,hg,hw,h1,h2,h3,h4,h5⟩:=h;obtain⟨_,loc,hl,hr⟩:=R.oc _ b hg;refine⟨b,loc,hg,hl, ?_⟩;cases loc with
 |nil=>
  refine⟨?_,by rw[h4];exact hr.2⟩;rcases h5 with⟨q,_⟩|q
  ·rw[q];exact hr.1
  ·have hr1:b.rows=[]:=hr.1;rw[hr1] at q;simp[h_] at q;exact q
 |kP bk cap sz=>
  obtain⟨e,hob⟩:=hr;subst e;refine⟨h2.symm, ?_⟩;rcases h5 with⟨q,hbx⟩|q
  ·exact hob.move (by rw[D.hw];rfl) q h2 (fun _=>by rw[q];exact hob.cl hbx) fun i j r t v hi ht hv=>D.move hv (hob.cl hbx i j r t hi ht)
  ·obtain⟨hlen,hwid,hcl,cs,e,fr,g1,g2,g3,g4⟩:=hob;have key:∀(i j:Nat) (r:List T) (t:T),l.2.2.rows[i]? =some r→r[j]? =some t→∃v,cs[i*b.sz+j]? =some v∧j7 (cx F Pr E o w) t v∧ff t:=by
    intro i j r t hi ht;obtain⟨r0,k1,k2⟩:=mm q hi;obtain⟨t0,k3,k4⟩:=mm k2 ht;obtain⟨v,m1,m2⟩:=g4 i j r0 t0 k1 k3;exact⟨v,m1,xN R k4 m2,sy R k4 m2⟩
   refine⟨by rw[kD q];exact hlen, ?_,fun _ i j r t hi ht=>(key i j r t hi ht).choose_spec.2.2,cs,e,fr,by rw[D.hw];exact g1,by rw[h2];exact g2,g3, ?_⟩
   ·intro i r hi;obtain⟨r0,k1,k2⟩:=mm q hi;rw[kD k2,h2];exact hwid i r0 k1
   ·rw[h2];intro i j r t hi ht;obtain⟨v,m1,m2,m3⟩:=key i j r t hi ht;exact⟨v,m1,D.move m2 m3⟩
theorem w9(R:Rel F Pr w0 lb N E n t o a w){B:List Nat}{X:Cx}{lend:List Nat}(D:Reads F Pr E o w B X):∀{ts:List T} {k:Nat} {ts':List T} {ls:List (Nat×Nat×Ob)} {b:List Nat} {vs:List Value},qd o lend k ts=some (ts',ls,b)→
  ts.length=vs.length→(∀(i:Nat) (t:T) (x:Value),ts[i]? =some t→vs[i]? =some x→j7 (cx F Pr E o w) t x)→(∀id∈b,id∈B)→(∀l∈ls,∀ob,get o l.2.1=some ob→X.E l.1=E ob.ct)→
  ts'.length=ts.length∧∀(i:Nat) (t:T) (x:Value),ts'[i]? =some t→vs[i]? =some x→j7 X t x
 |[],k,ts',ls,b,vs,h,hx,hr,hb,hE=>by
  simp[qd] at h;obtain⟨rfl,rfl,rfl⟩:=h;exact⟨rfl,fun i v x hi=>by simp at hi⟩
 |t::ts,k,ts',ls,b,v::vs,h,hx,hr,hb,hE=>by
  simp only[qd] at h;split at h
  ·cases h
  ·rename_i ts1 ls1 b1 hrest;have hhead:=hr 0 t v (by simp) (by simp);have htail:∀(i:Nat) (t:T) (x:Value),ts[i]? =some t→vs[i]? =some x→j7 (cx F Pr E o w) t x:=fun i v x h1 h2=>hr (i+1) v x (by simpa using h1) (by simpa using h2)
   split at h
   ·split at h
    ·rename_i t' id ob hlo;simp only[aH,aR] at h;obtain⟨rfl,rfl,rfl⟩:=h;obtain⟨i1,i2⟩:=w9 R D hrest (by simpa using hx) htail hb (fun l hl=>hE l (bo _ hl));obtain⟨_,k2⟩:=w8 (F:=F) (Pr:=Pr) (w:=w) (X:=X) hlo (.c _ _ hhead) (fun b hb=>hE (k,id,ob) (bl ..) b hb);refine⟨by simp[i1],fun i u y hu hy=> ?_⟩;cases i with
     |zero=>simp at hu hy;subst hu hy;exact k2.xQ
     |succ i=>exact i2 i u y (by simpa using hu) (by simpa using hy)
    ·cases h
   ·split at h
    ·rename_i t' ht';simp only[aH,aR] at h;obtain⟨rfl,rfl,rfl⟩:=h;obtain⟨i1,i2⟩:=w9 R D hrest (by simpa using hx) htail (fun id hid=>hb id (List.mem_append_right _ hid)) hE;refine⟨by simp[i1],fun i u y hu hy=> ?_⟩;cases i with
     |zero=>simp at hu hy;subst hu hy;exact zJ R D ht' (fun id hid=>hb id (List.mem_append_left _ hid)) hhead
     |succ i=>exact i2 i u y (by simpa using hu) (by simpa using hy)
    ·cases h
 |_::_,_,_,_,_,[],_,hx,_,_,_=>by simp at hx
theorem wk(R:Rel F Pr w0 lb N E n t o a w){B:List Nat}{X:Cx}{lend:List Nat}(D:Reads F Pr E o w B X):∀{vals:List V} {p:Nat} {as:List V} {ls:List (Nat×Nat×Ob)} {b:List Nat} {xs:List Value},args o lend p vals=some (as,ls,b)→
  vals.length=xs.length→(∀(i:Nat) (v:V) (x:Value),vals[i]? =some v→xs[i]? =some x→kQ (cx F Pr E o w) v x)→(∀id∈b,id∈B)→(∀l∈ls,∀ob,get o l.2.1=some ob→X.E l.1=E ob.ct)→
  as.length=vals.length∧(∀(i:Nat) (v:V) (x:Value),as[i]? =some v→xs[i]? =some x→kQ X v x)
 |[],p,as,ls,b,xs,h,hx,hr,hb,hE=>by
  simp[args] at h;obtain⟨rfl,rfl,rfl⟩:=h;exact⟨rfl,fun i v x hi=>by simp at hi⟩
 |v::vals,p,as,ls,b,x::xs,h,hx,hr,hb,hE=>by
  simp only[args] at h;split at h
  ·cases h
  ·rename_i as' ls' b' hrest;have hhead:=hr 0 v x (by simp) (by simp);have htail:∀(i:Nat) (v:V) (x:Value),vals[i]? =some v→xs[i]? =some x→kQ (cx F Pr E o w) v x:=fun i v x h1 h2=>hr (i+1) v x (by simpa using h1) (by simpa using h2)
   split at h
   ·split at h
    ·rename_i v' id ob hlo;simp only[aH,aR] at h;obtain⟨rfl,rfl,rfl⟩:=h;obtain⟨i1,i2⟩:=wk R D hrest (by simpa using hx) htail hb (fun l hl=>hE l (bo _ hl));obtain⟨k1,k2⟩:=w8 (F:=F) (Pr:=Pr) (w:=w) (X:=X) hlo hhead (fun b hb=>hE (p,id,ob) (bl ..) b hb);refine⟨by simp[i1], ?_⟩;intro i u y hu hy;cases i with
     |zero=>simp at hu hy;subst hu hy;exact k2
     |succ i=>exact i2 i u y (by simpa using hu) (by simpa using hy)
    ·cases h
   ·split at h
    ·split at h
     ·rename_i ts;split at h
      ·split at h
       ·rename_i ts' ls1 b1 hcells;simp only[aH,aR] at h;obtain⟨rfl,rfl,rfl⟩:=h;obtain⟨i1,i2⟩:=wk R D hrest (by simpa using hx) htail (fun id hid=>hb id (List.mem_append_right _ hid)) (fun l hl=>hE l (List.mem_append_right _ hl));refine⟨by simp[i1], ?_⟩;intro i u y hu hy;cases i with
        |zero=>
         simp at hu hy;subst hu hy;cases hhead with
         |a _ cs hn hrr=>
          obtain⟨q1,q2⟩:=w9 R D hcells (vs:=cs.toList) (by simpa using hn) (fun i t x h1 h2=>hrr i t x h1 (by simpa using h2)) (fun id hid=>hb id (List.mem_append_left _ hid)) (fun l hl=>hE l (List.mem_append_left _ hl));exact .a _ _ (by rw[q1,hn]) fun i t v ht hv=>q2 i t v ht (by simpa using hv)
        |succ i=>exact i2 i u y (by simpa using hu) (by simpa using hy)
       ·cases h
      ·cases h
     ·cases h
    ·split at h
     ·rename_i v' hv';simp only[aH,aR] at h;obtain⟨rfl,rfl,rfl⟩:=h;obtain⟨i1,i2⟩:=wk R D hrest (by simpa using hx) htail (fun id hid=>hb id (List.mem_append_right _ hid)) hE;refine⟨by simp[i1], ?_⟩;intro i u y hu hy;cases i with
      |zero=>simp at hu hy;subst hu hy;exact FQ R D hv' (fun id hid=>hb id (List.mem_append_left _ hid)) hhead
      |succ i=>exact i2 i u y (by simpa using hu) (by simpa using hy)
     ·cases h
 |_::_,_,_,_,_,[],_,hx,_,_,_=>by simp at hx
end Mx
