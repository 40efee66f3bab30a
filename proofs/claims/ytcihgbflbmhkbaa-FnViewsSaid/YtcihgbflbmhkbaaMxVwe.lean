/-
  What more of the functions compute, each by a small evaluation; no condition beyond what each says.
-/
import Derived.Test.YtcihgbflbmhkbaaMxVwd
set_option maxHeartbeats 16000000
set_option linter.unusedSimpArgs false
set_option linter.unusedVariables false
namespace Mx
open Go
attribute [-simp] b9 step fF eU ia iz dF
variable {M:Nat→Option Body}
structure sA (M:Nat→Option Body):Prop where
 h0:M 287=some (.code av.m)
 told:bO.k M
 copy:bn.k M
 size:aO.k M
 boxed:a8.k M
 wH:aY.k M
 sD:aw.k M
 box:bQ.k M
def sy(M:Nat→Option Body)(s:aP)(x:a5)(gid:Int)(l:List Token):Prop:=
 ∃(x':a5) (t no:List UInt8) (f:Bool) (rows:List (List T)),fv s x'∧run M 287 [.a (cN x),.a (ao s),.c (I gid),.c (ev l)] []=some (.hC [.a (cN x'),.c (S t),.c (S no),.c (.sl f 5 rows)],[])
theorem o_(K:sA M)(s:aP)(hs:aW s=true)(x:a5)(hx:fv s x)(gid:Int)(l:List Token)(hl:l.length<2∨∃a b p,l=a::b::p∧¬(a.kind=1∧b.kind=1)):sy M s x gid l:=by
 have vx:=hx.len hs;have h1:=bn.aE K.copy x (by omega);refine⟨x,[42,32,66,65,68,13,10],[],true,[],hx,aq (b:=av.m) K.h0 ⟨0, ?_⟩⟩;simp only[ao,boxes,ints,cN,dw,ev] at h1 ⊢;generalize au x.view=rv at*;generalize s.boxes.map ah=r1 at*;generalize au s.gone=r2 at*;rcases hl with h|⟨a,b,p,rfl,h⟩
 ·match l,h with
  |[],_=>simp (maxSteps:=9^9) [bB,av.m,av.b,ar,aa,setAt,ak,h1]
  |[a],_=>simp (maxSteps:=9^9) [bB,av.m,av.b,ar,aa,setAt,ak,h1]
 ·obtain⟨ka,ta⟩:=a;obtain⟨kb,tb⟩:=b;simp only at h;simp only[aL,aJ];have n1:¬(p.length:Int)+1+1<2:=by omega
  by_cases c1:ka=1
  ·have c2:¬kb=1:=fun z=>h ⟨c1,z⟩
   subst c1;simp (maxSteps:=9^9) [bB,av.m,av.b,ar,aa,setAt,ak,h1,n1,c2]
  ·simp (maxSteps:=9^9) [bB,av.m,av.b,ar,aa,setAt,ak,h1,n1,c1]
theorem zI(K:sA M)(s:aP)(hs:aW s=true)(x:a5)(hx:fv s x)(gid:Int)(tag:List UInt8)(htag:tag.length≤60)(w:List UInt8)(p:List Token)(hpl:p.length≤7)(hz:dk w=0∨¬(p.length:Int)+1+1=dk w+1):sy M s x gid (⟨1,tag⟩::⟨1,w⟩::p):=by
 have vx:=hx.len hs;have h1:=bn.aE K.copy x (by omega);have h2:=aO.aE K.size w;have h3:=a8.aE K.boxed w;have n1:¬(p.length:Int)+1+1<2:=by omega
 have el:(p.map aJ).length=p.length:=by simp
 obtain⟨q1,s1,l1⟩:=bV (a:=tag) [32,66,65,68,13,10] (by simp only[ae,ai];omega);obtain⟨q2,s2,l2⟩:=bV (a:=tag) [32,78,79,13,10] (by simp only[ae,ai];omega);obtain⟨q3,s3,l3⟩:=bV (a:=tag) [32,79,75,13,10] (by simp only[ae,ai];omega);simp only[ae,ai] at l1 l2 l3;have hw:IntKind.i64.wrap (dk w+1)=dk w+1:=wrap_i64 (by unfold dk;repeat' split;all_goals omega) (by unfold dk;repeat' split;all_goals omega);generalize dk w=z at*;refine⟨x,q1,[],true,[],hx,aq (b:=av.m) K.h0 ⟨0, ?_⟩⟩;simp only[ao,boxes,ints,cN,dw,ev,aJ,aL] at h1 el ⊢;generalize au x.view=rv at*;generalize s.boxes.map ah=r1 at*;generalize au s.gone=r2 at*;generalize (p.map fun x:Token=>[I x.kind,S x.text])=rp at*;by_cases c1:z=0
 ·simp (maxSteps:=9^9) [bB,av.m,av.b,ar,aa,setAt,ak,h1,h2,n1,el,s1,s2,s3,c1]
 ·have c2:=hz.resolve_left c1;simp (maxSteps:=9^9) [bB,av.m,av.b,ar,aa,setAt,ak,h1,h2,n1,el,s1,s2,s3,c1,c2,hw]
theorem xP(K:sA M)(s:aP)(hs:aW s=true)(x:a5)(hx:fv s x)(gid:Int)(tag:List UInt8)(htag:tag.length≤60)(p:List Token)(hpl:p.length≤7)(hp:p.length=2):sy M s x gid (⟨1,tag⟩::⟨1,jC⟩::p):=by
 have vx:=hx.len hs;have h1:=bn.aE K.copy x (by omega);have h2:=aO.aE K.size jC;have h3:=a8.aE K.boxed jC;have n1:¬(p.length:Int)+1+1<2:=by omega
 have el:(p.map aJ).length=p.length:=by simp
 obtain⟨q1,s1,l1⟩:=bV (a:=tag) [32,66,65,68,13,10] (by simp only[ae,ai];omega);obtain⟨q2,s2,l2⟩:=bV (a:=tag) [32,78,79,13,10] (by simp only[ae,ai];omega);obtain⟨q3,s3,l3⟩:=bV (a:=tag) [32,79,75,13,10] (by simp only[ae,ai];omega);simp only[ae,ai] at l1 l2 l3;have hz:dk jC=3:=rfl;rw[hz] at h2;have hn:(p.length:Int)+1+1=4:=by omega
 have hw:IntKind.i64.wrap 4=4:=wrap_i64 (by omega) (by omega);refine⟨{x with on:=true},q3,[],true,[],⟨hx.i,hx.o,hx.v⟩,aq (b:=av.m) K.h0 ⟨0, ?_⟩⟩
 simp only[ao,boxes,ints,cN,dw,ev,aJ,aL] at h1 el ⊢;generalize au x.view=rv at*;generalize s.boxes.map ah=r1 at*;generalize au s.gone=r2 at*;generalize (p.map fun x:Token=>[I x.kind,S x.text])=rp at*;simp (maxSteps:=9^9) [bB,av.m,av.b,ar,aa,setAt,ak,h1,h2,n1,el,s1,s2,s3,hn,hw,bj]
theorem vL(K:sA M)(s:aP)(hs:aW s=true)(x:a5)(hx:fv s x)(gid:Int)(tag:List UInt8)(htag:tag.length≤60)(p:List Token)(hpl:p.length≤7)(hp:p.length=0):sy M s x gid (⟨1,tag⟩::⟨1,il⟩::p):=by
 have vx:=hx.len hs;have h1:=bn.aE K.copy x (by omega);have h2:=aO.aE K.size il;have h3:=a8.aE K.boxed il;have n1:¬(p.length:Int)+1+1<2:=by omega
 have el:(p.map aJ).length=p.length:=by simp
 obtain⟨q1,s1,l1⟩:=bV (a:=tag) [32,66,65,68,13,10] (by simp only[ae,ai];omega);obtain⟨q2,s2,l2⟩:=bV (a:=tag) [32,78,79,13,10] (by simp only[ae,ai];omega);obtain⟨q3,s3,l3⟩:=bV (a:=tag) [32,79,75,13,10] (by simp only[ae,ai];omega);simp only[ae,ai] at l1 l2 l3;have hz:dk il=1:=rfl;rw[hz] at h2;have hn:(p.length:Int)+1+1=2:=by omega
 have hw:IntKind.i64.wrap 2=2:=wrap_i64 (by omega) (by omega);obtain⟨q4,s4,l4⟩:=(⟨[42,32,66,89,69,13,10]++q3,ak _ _ (by simp only[ae,ai];omega),by simp;omega⟩:∃c:List UInt8,eN .add ⟨[42,32,66,89,69,13,10].toArray⟩ (bs q3)=some (S c)∧c.length=7+q3.length);refine⟨{x with over:=true},q4,[],true,[],⟨hx.i,hx.o,hx.v⟩,aq (b:=av.m) K.h0 ⟨0, ?_⟩⟩
 simp only[ao,boxes,ints,cN,dw,ev,aJ,aL] at h1 el ⊢;generalize au x.view=rv at*;generalize s.boxes.map ah=r1 at*;generalize au s.gone=r2 at*;generalize (p.map fun x:Token=>[I x.kind,S x.text])=rp at*;simp (maxSteps:=9^9) [bB,av.m,av.b,ar,aa,setAt,ak,h1,h2,n1,el,s1,s2,s3,hn,hw,bj,s4]
theorem zJ(K:sA M)(s:aP)(hs:aW s=true)(x:a5)(hx:fv s x)(gid:Int)(tag:List UInt8)(htag:tag.length≤60)(p:List Token)(hpl:p.length≤7)(hp:p.length=0):sy M s x gid (⟨1,tag⟩::⟨1,lQ⟩::p):=by
 have vx:=hx.len hs;have h1:=bn.aE K.copy x (by omega);have h2:=aO.aE K.size lQ;have h3:=a8.aE K.boxed lQ;have n1:¬(p.length:Int)+1+1<2:=by omega
 have el:(p.map aJ).length=p.length:=by simp
 obtain⟨q1,s1,l1⟩:=bV (a:=tag) [32,66,65,68,13,10] (by simp only[ae,ai];omega);obtain⟨q2,s2,l2⟩:=bV (a:=tag) [32,78,79,13,10] (by simp only[ae,ai];omega);obtain⟨q3,s3,l3⟩:=bV (a:=tag) [32,79,75,13,10] (by simp only[ae,ai];omega);simp only[ae,ai] at l1 l2 l3;have hz:dk lQ=1:=rfl;rw[hz] at h2;have hn:(p.length:Int)+1+1=2:=by omega
 have hw:IntKind.i64.wrap 2=2:=wrap_i64 (by omega) (by omega);have G:=bW.1 hs;have h5:=bO.aE K.told x (by omega) s (by have:=G.len;omega) (fun b hb=>by have:=(G.box b hb).1.len;omega);have htl:=oa vx (s:=s) (fun b hb=>(G.box b hb).1.len);have hts:=n_ hx;generalize told mc x s=y at*;obtain⟨y,tt⟩:=y;simp only at h5 htl hts;obtain⟨q4,s4,l4⟩:=gX (a:=tt) (b:=q3) (by omega);refine⟨y,q4,[],true,[],hts,aq (b:=av.m) K.h0 ⟨0, ?_⟩⟩;simp only[ao,boxes,ints,cN,dw,ev,aJ,aL] at h1 h5 el ⊢;generalize au y.view=ry at*;generalize au x.view=rv at*;generalize s.boxes.map ah=r1 at*;generalize au s.gone=r2 at*;generalize (p.map fun x:Token=>[I x.kind,S x.text])=rp at*;simp (maxSteps:=9^9) [bB,av.m,av.b,ar,aa,setAt,ak,h1,h2,n1,el,s1,s2,s3,hn,hw,h5,bj,s4]
theorem A0(K:sA M)(s:aP)(hs:aW s=true)(x:a5)(hx:fv s x)(gid:Int)(tag:List UInt8)(htag:tag.length≤60)(w:List UInt8)(p:List Token)(hpl:p.length≤7)(c1:¬w=jC)(c2:¬w=lQ)(c3:¬w=il)(hz:¬dk w=0)(hn:(p.length:Int)+1+1=dk w+1)(ho:x.on=false∨(fR w=true∧x.box=0)):sy M s x gid (⟨1,tag⟩::⟨1,w⟩::p):=by
 have vx:=hx.len hs;have h1:=bn.aE K.copy x (by omega);have h2:=aO.aE K.size w;have h3:=a8.aE K.boxed w;have n1:¬(p.length:Int)+1+1<2:=by omega
 have el:(p.map aJ).length=p.length:=by simp
 obtain⟨q1,s1,l1⟩:=bV (a:=tag) [32,66,65,68,13,10] (by simp only[ae,ai];omega);obtain⟨q2,s2,l2⟩:=bV (a:=tag) [32,78,79,13,10] (by simp only[ae,ai];omega);obtain⟨q3,s3,l3⟩:=bV (a:=tag) [32,79,75,13,10] (by simp only[ae,ai];omega);simp only[ae,ai] at l1 l2 l3;have hw:IntKind.i64.wrap (dk w+1)=dk w+1:=wrap_i64 (by omega) (by omega);generalize dk w=z at*;have n2:¬z+1<2:=by omega
 refine⟨x,q1,[],true,[],hx,aq (b:=av.m) K.h0 ⟨0, ?_⟩⟩;simp only[ao,boxes,ints,cN,dw,ev,aJ,aL] at h1 el ⊢;generalize au x.view=rv at*;generalize s.boxes.map ah=r1 at*;generalize au s.gone=r2 at*;generalize (p.map fun x:Token=>[I x.kind,S x.text])=rp at*;cases hon:x.on with
 |false=>rw[hon] at h1;simp (maxSteps:=9^9) [bB,av.m,av.b,ar,aa,setAt,ak,h1,h2,n1,el,s1,s2,s3,n2,hz,hn,hw,c1,c2,c3,bj]
 |true=>
  rcases ho with q|⟨q,q'⟩
  ·rw[hon] at q;cases q
  ·rw[hon] at h1;rw[q] at h3;rw[q'] at h1 ⊢;simp (maxSteps:=9^9) [bB,av.m,av.b,ar,aa,setAt,ak,h1,h2,n1,el,s1,s2,s3,h3,n2,hz,hn,hw,c1,c2,c3,bj]
theorem zK(K:sA M)(s:aP)(hs:aW s=true)(x:a5)(hx:fv s x)(gid:Int)(tag:List UInt8)(htag:tag.length≤60)(p:List Token)(hpl:p.length≤7)(hp:p.length=0)(hon:x.on=true):sy M s x gid (⟨1,tag⟩::⟨1,kj⟩::p):=by
 have vx:=hx.len hs;have h1:=bn.aE K.copy x (by omega);have h2:=aO.aE K.size kj;have h3:=a8.aE K.boxed kj;have n1:¬(p.length:Int)+1+1<2:=by omega
 have el:(p.map aJ).length=p.length:=by simp
 obtain⟨q1,s1,l1⟩:=bV (a:=tag) [32,66,65,68,13,10] (by simp only[ae,ai];omega);obtain⟨q2,s2,l2⟩:=bV (a:=tag) [32,78,79,13,10] (by simp only[ae,ai];omega);obtain⟨q3,s3,l3⟩:=bV (a:=tag) [32,79,75,13,10] (by simp only[ae,ai];omega);simp only[ae,ai] at l1 l2 l3;have hz:dk kj=1:=rfl;rw[hz] at h2;have hn:(p.length:Int)+1+1=2:=by omega
 have hw:IntKind.i64.wrap 2=2:=wrap_i64 (by omega) (by omega);have hb:fR kj=false:=rfl;rw[hb] at h3;obtain⟨y,t,ok,hy,ht,h5⟩:=aY.aE K.wH s hs x hx kj p (.inl rfl);obtain⟨q4,s4,l4⟩:=gX (a:=t) (b:=q3) (by omega);cases ok with
 |false=>
  refine⟨y,q2,[],true,[],hy,aq (b:=av.m) K.h0 ⟨0, ?_⟩⟩;simp only[ao,boxes,ints,cN,dw,ev,aJ,eL,aL] at h1 h5 el ⊢;rw[hon] at h1 h5 ⊢;generalize au y.view=ry at*;generalize au x.view=rv at*;generalize s.boxes.map ah=r1 at*;generalize au s.gone=r2 at*;generalize (p.map fun x:Token=>[I x.kind,S x.text])=rp at*;simp (maxSteps:=9^9) [bB,av.m,av.b,ar,aa,setAt,ak,h1,h2,n1,el,s1,s2,s3,hn,hw,h3,h5,bj]
 |true=>
  refine⟨y,q4,[],true,[],hy,aq (b:=av.m) K.h0 ⟨0, ?_⟩⟩;simp only[ao,boxes,ints,cN,dw,ev,aJ,eL,aL] at h1 h5 el ⊢;rw[hon] at h1 h5 ⊢;generalize au y.view=ry at*;generalize au x.view=rv at*;generalize s.boxes.map ah=r1 at*;generalize au s.gone=r2 at*;generalize (p.map fun x:Token=>[I x.kind,S x.text])=rp at*;simp (maxSteps:=9^9) [bB,av.m,av.b,ar,aa,setAt,ak,h1,h2,n1,el,s1,s2,s3,hn,hw,h3,h5,bj,s4]
theorem vN(K:sA M)(s:aP)(hs:aW s=true)(x:a5)(hx:fv s x)(gid:Int)(tag:List UInt8)(htag:tag.length≤60)(p:List Token)(hpl:p.length≤7)(hp:p.length=1)(hon:x.on=true):sy M s x gid (⟨1,tag⟩::⟨1,gy⟩::p):=by
 have vx:=hx.len hs;have h1:=bn.aE K.copy x (by omega);have h2:=aO.aE K.size gy;have h3:=a8.aE K.boxed gy;have n1:¬(p.length:Int)+1+1<2:=by omega
 have el:(p.map aJ).length=p.length:=by simp
 obtain⟨q1,s1,l1⟩:=bV (a:=tag) [32,66,65,68,13,10] (by simp only[ae,ai];omega);obtain⟨q2,s2,l2⟩:=bV (a:=tag) [32,78,79,13,10] (by simp only[ae,ai];omega);obtain⟨q3,s3,l3⟩:=bV (a:=tag) [32,79,75,13,10] (by simp only[ae,ai];omega);simp only[ae,ai] at l1 l2 l3;have hz:dk gy=2:=rfl;rw[hz] at h2;have hn:(p.length:Int)+1+1=3:=by omega
 have hw:IntKind.i64.wrap 3=3:=wrap_i64 (by omega) (by omega);have hb:fR gy=false:=rfl;rw[hb] at h3;obtain⟨y,t,ok,hy,ht,h5⟩:=aY.aE K.wH s hs x hx gy p (.inr (by omega));obtain⟨q4,s4,l4⟩:=gX (a:=t) (b:=q3) (by omega);cases ok with
 |false=>
  refine⟨y,q2,[],true,[],hy,aq (b:=av.m) K.h0 ⟨0, ?_⟩⟩;simp only[ao,boxes,ints,cN,dw,ev,aJ,eL,aL] at h1 h5 el ⊢;rw[hon] at h1 h5 ⊢;generalize au y.view=ry at*;generalize au x.view=rv at*;generalize s.boxes.map ah=r1 at*;generalize au s.gone=r2 at*;generalize (p.map fun x:Token=>[I x.kind,S x.text])=rp at*;simp (maxSteps:=9^9) [bB,av.m,av.b,ar,aa,setAt,ak,h1,h2,n1,el,s1,s2,s3,hn,hw,h3,h5,bj]
 |true=>
  refine⟨y,q4,[],true,[],hy,aq (b:=av.m) K.h0 ⟨0, ?_⟩⟩;simp only[ao,boxes,ints,cN,dw,ev,aJ,eL,aL] at h1 h5 el ⊢;rw[hon] at h1 h5 ⊢;generalize au y.view=ry at*;generalize au x.view=rv at*;generalize s.boxes.map ah=r1 at*;generalize au s.gone=r2 at*;generalize (p.map fun x:Token=>[I x.kind,S x.text])=rp at*;simp (maxSteps:=9^9) [bB,av.m,av.b,ar,aa,setAt,ak,h1,h2,n1,el,s1,s2,s3,hn,hw,h3,h5,bj,s4]
theorem vM(K:sA M)(s:aP)(hs:aW s=true)(x:a5)(hx:fv s x)(gid:Int)(tag:List UInt8)(htag:tag.length≤60)(p:List Token)(hpl:p.length≤7)(hp:p.length=1)(hon:x.on=true):sy M s x gid (⟨1,tag⟩::⟨1,gx⟩::p):=by
 have vx:=hx.len hs;have h1:=bn.aE K.copy x (by omega);have h2:=aO.aE K.size gx;have h3:=a8.aE K.boxed gx;have n1:¬(p.length:Int)+1+1<2:=by omega
 have el:(p.map aJ).length=p.length:=by simp
 obtain⟨q1,s1,l1⟩:=bV (a:=tag) [32,66,65,68,13,10] (by simp only[ae,ai];omega);obtain⟨q2,s2,l2⟩:=bV (a:=tag) [32,78,79,13,10] (by simp only[ae,ai];omega);obtain⟨q3,s3,l3⟩:=bV (a:=tag) [32,79,75,13,10] (by simp only[ae,ai];omega);simp only[ae,ai] at l1 l2 l3;have hz:dk gx=2:=rfl;rw[hz] at h2;have hn:(p.length:Int)+1+1=3:=by omega
 have hw:IntKind.i64.wrap 3=3:=wrap_i64 (by omega) (by omega);have hb:fR gx=false:=rfl;rw[hb] at h3;obtain⟨y,t,ok,hy,ht,h5⟩:=aY.aE K.wH s hs x hx gx p (.inr (by omega));obtain⟨q4,s4,l4⟩:=gX (a:=t) (b:=q3) (by omega);cases ok with
 |false=>
  refine⟨y,q2,[],true,[],hy,aq (b:=av.m) K.h0 ⟨0, ?_⟩⟩;simp only[ao,boxes,ints,cN,dw,ev,aJ,eL,aL] at h1 h5 el ⊢;rw[hon] at h1 h5 ⊢;generalize au y.view=ry at*;generalize au x.view=rv at*;generalize s.boxes.map ah=r1 at*;generalize au s.gone=r2 at*;generalize (p.map fun x:Token=>[I x.kind,S x.text])=rp at*;simp (maxSteps:=9^9) [bB,av.m,av.b,ar,aa,setAt,ak,h1,h2,n1,el,s1,s2,s3,hn,hw,h3,h5,bj]
 |true=>
  refine⟨y,q4,[],true,[],hy,aq (b:=av.m) K.h0 ⟨0, ?_⟩⟩;simp only[ao,boxes,ints,cN,dw,ev,aJ,eL,aL] at h1 h5 el ⊢;rw[hon] at h1 h5 ⊢;generalize au y.view=ry at*;generalize au x.view=rv at*;generalize s.boxes.map ah=r1 at*;generalize au s.gone=r2 at*;generalize (p.map fun x:Token=>[I x.kind,S x.text])=rp at*;simp (maxSteps:=9^9) [bB,av.m,av.b,ar,aa,setAt,ak,h1,h2,n1,el,s1,s2,s3,hn,hw,h3,h5,bj,s4]
theorem xR(K:sA M)(s:aP)(hs:aW s=true)(x:a5)(hx:fv s x)(gid:Int)(tag:List UInt8)(htag:tag.length≤60)(p:List Token)(hpl:p.length≤7)(hp:p.length=1)(hpt:∀t∈p,t.text.length≤60)(hon:x.on=true)(hbx:¬x.box=0):sy M s x gid (⟨1,tag⟩::⟨1,gj⟩::p):=by
 have vx:=hx.len hs;have h1:=bn.aE K.copy x (by omega);have h2:=aO.aE K.size gj;have h3:=a8.aE K.boxed gj;have n1:¬(p.length:Int)+1+1<2:=by omega
 have el:(p.map aJ).length=p.length:=by simp
 obtain⟨q1,s1,l1⟩:=bV (a:=tag) [32,66,65,68,13,10] (by simp only[ae,ai];omega);obtain⟨q2,s2,l2⟩:=bV (a:=tag) [32,78,79,13,10] (by simp only[ae,ai];omega);obtain⟨q3,s3,l3⟩:=bV (a:=tag) [32,79,75,13,10] (by simp only[ae,ai];omega);simp only[ae,ai] at l1 l2 l3;have hz:dk gj=2:=rfl;rw[hz] at h2;have hn:(p.length:Int)+1+1=3:=by omega
 have hw:IntKind.i64.wrap 3=3:=wrap_i64 (by omega) (by omega);have hb:fR gj=true:=rfl;rw[hb] at h3;obtain⟨y,t,ok,rows,hy,ht,hrl,h5⟩:=aw.aE K.sD s hs x hx gj p hpt (.inr (.inl ⟨rfl,by omega⟩));obtain⟨q4,s4,l4⟩:=gX (a:=t) (b:=q3) (by omega);cases ok with
 |false=>
  refine⟨y,q1,[],true,[],hy,aq (b:=av.m) K.h0 ⟨0, ?_⟩⟩;simp only[ao,boxes,ints,cN,dw,ev,aJ,eL,aL] at h1 h5 el ⊢;rw[hon] at h1 h5 ⊢;generalize au y.view=ry at*;generalize au x.view=rv at*;generalize s.boxes.map ah=r1 at*;generalize au s.gone=r2 at*;generalize (p.map fun x:Token=>[I x.kind,S x.text])=rp at*;simp (maxSteps:=9^9) [bB,av.m,av.b,ar,aa,setAt,ak,h1,h2,n1,el,s1,s2,s3,hn,hw,h3,h5,hbx,bj]
 |true=>
  by_cases c:rows=[]
  ·subst c;refine⟨y,q4,[],false,[],hy,aq (b:=av.m) K.h0 ⟨0, ?_⟩⟩;simp only[ao,boxes,ints,cN,dw,ev,aJ,eL,aL] at h1 h5 el ⊢;rw[hon] at h1 h5 ⊢;generalize au y.view=ry at*;generalize au x.view=rv at*;generalize s.boxes.map ah=r1 at*;generalize au s.gone=r2 at*;generalize (p.map fun x:Token=>[I x.kind,S x.text])=rp at*;simp (maxSteps:=9^9) [bB,av.m,av.b,ar,aa,setAt,ak,h1,h2,n1,el,s1,s2,s3,hn,hw,h3,h5,hbx,bj,s4]
  ·refine⟨y,q4,q2,false,rows,hy,aq (b:=av.m) K.h0 ⟨0, ?_⟩⟩;simp only[ao,boxes,ints,cN,dw,ev,aJ,eL,aL] at h1 h5 el ⊢;rw[hon] at h1 h5 ⊢;generalize au y.view=ry at*;generalize au x.view=rv at*;generalize s.boxes.map ah=r1 at*;generalize au s.gone=r2 at*;generalize (p.map fun x:Token=>[I x.kind,S x.text])=rp at*;simp (maxSteps:=9^9) [bB,av.m,av.b,ar,aa,setAt,ak,h1,h2,n1,el,s1,s2,s3,hn,hw,h3,h5,hbx,bj,s4,c]
theorem xQ(K:sA M)(s:aP)(hs:aW s=true)(x:a5)(hx:fv s x)(gid:Int)(tag:List UInt8)(htag:tag.length≤60)(p:List Token)(hpl:p.length≤7)(hp:p.length=2)(hpt:∀t∈p,t.text.length≤60)(hon:x.on=true)(hbx:¬x.box=0):sy M s x gid (⟨1,tag⟩::⟨1,fG⟩::p):=by
 have vx:=hx.len hs;have h1:=bn.aE K.copy x (by omega);have h2:=aO.aE K.size fG;have h3:=a8.aE K.boxed fG;have n1:¬(p.length:Int)+1+1<2:=by omega
 have el:(p.map aJ).length=p.length:=by simp
 obtain⟨q1,s1,l1⟩:=bV (a:=tag) [32,66,65,68,13,10] (by simp only[ae,ai];omega);obtain⟨q2,s2,l2⟩:=bV (a:=tag) [32,78,79,13,10] (by simp only[ae,ai];omega);obtain⟨q3,s3,l3⟩:=bV (a:=tag) [32,79,75,13,10] (by simp only[ae,ai];omega);simp only[ae,ai] at l1 l2 l3;have hz:dk fG=3:=rfl;rw[hz] at h2;have hn:(p.length:Int)+1+1=4:=by omega
 have hw:IntKind.i64.wrap 4=4:=wrap_i64 (by omega) (by omega);have hb:fR fG=true:=rfl;rw[hb] at h3;obtain⟨y,t,ok,rows,hy,ht,hrl,h5⟩:=aw.aE K.sD s hs x hx fG p hpt (.inr (.inr ⟨rfl,by omega⟩));obtain⟨q4,s4,l4⟩:=gX (a:=t) (b:=q3) (by omega);cases ok with
 |false=>
  refine⟨y,q1,[],true,[],hy,aq (b:=av.m) K.h0 ⟨0, ?_⟩⟩;simp only[ao,boxes,ints,cN,dw,ev,aJ,eL,aL] at h1 h5 el ⊢;rw[hon] at h1 h5 ⊢;generalize au y.view=ry at*;generalize au x.view=rv at*;generalize s.boxes.map ah=r1 at*;generalize au s.gone=r2 at*;generalize (p.map fun x:Token=>[I x.kind,S x.text])=rp at*;simp (maxSteps:=9^9) [bB,av.m,av.b,ar,aa,setAt,ak,h1,h2,n1,el,s1,s2,s3,hn,hw,h3,h5,hbx,bj]
 |true=>
  by_cases c:rows=[]
  ·subst c;refine⟨y,q4,[],false,[],hy,aq (b:=av.m) K.h0 ⟨0, ?_⟩⟩;simp only[ao,boxes,ints,cN,dw,ev,aJ,eL,aL] at h1 h5 el ⊢;rw[hon] at h1 h5 ⊢;generalize au y.view=ry at*;generalize au x.view=rv at*;generalize s.boxes.map ah=r1 at*;generalize au s.gone=r2 at*;generalize (p.map fun x:Token=>[I x.kind,S x.text])=rp at*;simp (maxSteps:=9^9) [bB,av.m,av.b,ar,aa,setAt,ak,h1,h2,n1,el,s1,s2,s3,hn,hw,h3,h5,hbx,bj,s4]
  ·refine⟨y,q4,q2,false,rows,hy,aq (b:=av.m) K.h0 ⟨0, ?_⟩⟩;simp only[ao,boxes,ints,cN,dw,ev,aJ,eL,aL] at h1 h5 el ⊢;rw[hon] at h1 h5 ⊢;generalize au y.view=ry at*;generalize au x.view=rv at*;generalize s.boxes.map ah=r1 at*;generalize au s.gone=r2 at*;generalize (p.map fun x:Token=>[I x.kind,S x.text])=rp at*;simp (maxSteps:=9^9) [bB,av.m,av.b,ar,aa,setAt,ak,h1,h2,n1,el,s1,s2,s3,hn,hw,h3,h5,hbx,bj,s4,c]
theorem tG(K:sA M)(s:aP)(hs:aW s=true)(x:a5)(hx:fv s x)(gid:Int)(tag:List UInt8)(htag:tag.length≤60)(p:List Token)(hpl:p.length≤7)(hp:p.length=0)(hpt:∀t∈p,t.text.length≤60)(hon:x.on=true)(hbx:¬x.box=0):sy M s x gid (⟨1,tag⟩::⟨1,eG⟩::p):=by
 have vx:=hx.len hs;have h1:=bn.aE K.copy x (by omega);have h2:=aO.aE K.size eG;have h3:=a8.aE K.boxed eG;have n1:¬(p.length:Int)+1+1<2:=by omega
 have el:(p.map aJ).length=p.length:=by simp
 obtain⟨q1,s1,l1⟩:=bV (a:=tag) [32,66,65,68,13,10] (by simp only[ae,ai];omega);obtain⟨q2,s2,l2⟩:=bV (a:=tag) [32,78,79,13,10] (by simp only[ae,ai];omega);obtain⟨q3,s3,l3⟩:=bV (a:=tag) [32,79,75,13,10] (by simp only[ae,ai];omega);simp only[ae,ai] at l1 l2 l3;have hz:dk eG=1:=rfl;rw[hz] at h2;have hn:(p.length:Int)+1+1=2:=by omega
 have hw:IntKind.i64.wrap 2=2:=wrap_i64 (by omega) (by omega);have hb:fR eG=true:=rfl;rw[hb] at h3;obtain⟨y,t,ok,rows,hy,ht,hrl,h5⟩:=aw.aE K.sD s hs x hx eG p hpt (.inl rfl);obtain⟨q4,s4,l4⟩:=gX (a:=t) (b:=q3) (by omega);cases ok with
 |false=>
  refine⟨y,q1,[],true,[],hy,aq (b:=av.m) K.h0 ⟨0, ?_⟩⟩;simp only[ao,boxes,ints,cN,dw,ev,aJ,eL,aL] at h1 h5 el ⊢;rw[hon] at h1 h5 ⊢;generalize au y.view=ry at*;generalize au x.view=rv at*;generalize s.boxes.map ah=r1 at*;generalize au s.gone=r2 at*;generalize (p.map fun x:Token=>[I x.kind,S x.text])=rp at*;simp (maxSteps:=9^9) [bB,av.m,av.b,ar,aa,setAt,ak,h1,h2,n1,el,s1,s2,s3,hn,hw,h3,h5,hbx,bj]
 |true=>
  by_cases c:rows=[]
  ·subst c;refine⟨y,q4,[],false,[],hy,aq (b:=av.m) K.h0 ⟨0, ?_⟩⟩;simp only[ao,boxes,ints,cN,dw,ev,aJ,eL,aL] at h1 h5 el ⊢;rw[hon] at h1 h5 ⊢;generalize au y.view=ry at*;generalize au x.view=rv at*;generalize s.boxes.map ah=r1 at*;generalize au s.gone=r2 at*;generalize (p.map fun x:Token=>[I x.kind,S x.text])=rp at*;simp (maxSteps:=9^9) [bB,av.m,av.b,ar,aa,setAt,ak,h1,h2,n1,el,s1,s2,s3,hn,hw,h3,h5,hbx,bj,s4]
  ·refine⟨y,q4,q2,false,rows,hy,aq (b:=av.m) K.h0 ⟨0, ?_⟩⟩;simp only[ao,boxes,ints,cN,dw,ev,aJ,eL,aL] at h1 h5 el ⊢;rw[hon] at h1 h5 ⊢;generalize au y.view=ry at*;generalize au x.view=rv at*;generalize s.boxes.map ah=r1 at*;generalize au s.gone=r2 at*;generalize (p.map fun x:Token=>[I x.kind,S x.text])=rp at*;simp (maxSteps:=9^9) [bB,av.m,av.b,ar,aa,setAt,ak,h1,h2,n1,el,s1,s2,s3,hn,hw,h3,h5,hbx,bj,s4,c]
theorem vQ(K:sA M)(s:aP)(hs:aW s=true)(x:a5)(hx:fv s x)(gid:Int)(tag:List UInt8)(htag:tag.length≤60)(p:List Token)(hpl:p.length≤7)(hp:p.length=1)(hon:x.on=true):sy M s x gid (⟨1,tag⟩::⟨1,gf⟩::p):=by
 have vx:=hx.len hs;have h1:=bn.aE K.copy x (by omega);have h2:=aO.aE K.size gf;have h3:=a8.aE K.boxed gf;have n1:¬(p.length:Int)+1+1<2:=by omega
 have el:(p.map aJ).length=p.length:=by simp
 obtain⟨q1,s1,l1⟩:=bV (a:=tag) [32,66,65,68,13,10] (by simp only[ae,ai];omega);obtain⟨q2,s2,l2⟩:=bV (a:=tag) [32,78,79,13,10] (by simp only[ae,ai];omega);obtain⟨q3,s3,l3⟩:=bV (a:=tag) [32,79,75,13,10] (by simp only[ae,ai];omega);simp only[ae,ai] at l1 l2 l3;have hz:dk gf=2:=rfl;rw[hz] at h2;have hn:(p.length:Int)+1+1=3:=by omega
 have hw:IntKind.i64.wrap 3=3:=wrap_i64 (by omega) (by omega);have hb:fR gf=false:=rfl;rw[hb] at h3;obtain⟨a,b,c,d,t,ok,h5⟩:=bQ.aE K.box s (by have:=(bW.1 hs).len;omega) gid gf p (by omega) (.inl rfl);cases ok with
 |false=>
  refine⟨x,q2,[],true,[],hx,aq (b:=av.m) K.h0 ⟨0, ?_⟩⟩;simp only[ao,boxes,ints,cN,dw,ev,aJ,aL] at h1 h5 el ⊢;rw[hon] at h1 ⊢;generalize au x.view=rv at*;generalize s.boxes.map ah=r1 at*;generalize au s.gone=r2 at*;generalize (p.map fun x:Token=>[I x.kind,S x.text])=rp at*;simp (maxSteps:=9^9) [bB,av.m,av.b,ar,aa,setAt,ak,h1,h2,n1,el,s1,s2,s3,hn,hw,h3,h5,bj]
 |true=>
  refine⟨x,q3,q2,true,[[I a,I b,I c,I d,S t]],hx,aq (b:=av.m) K.h0 ⟨0, ?_⟩⟩;simp only[ao,boxes,ints,cN,dw,ev,aJ,aL] at h1 h5 el ⊢;rw[hon] at h1 ⊢;generalize au x.view=rv at*;generalize s.boxes.map ah=r1 at*;generalize au s.gone=r2 at*;generalize (p.map fun x:Token=>[I x.kind,S x.text])=rp at*;simp (maxSteps:=9^9) [bB,av.m,av.b,ar,aa,setAt,ak,h1,h2,n1,el,s1,s2,s3,hn,hw,h3,h5,bj]
theorem vP(K:sA M)(s:aP)(hs:aW s=true)(x:a5)(hx:fv s x)(gid:Int)(tag:List UInt8)(htag:tag.length≤60)(p:List Token)(hpl:p.length≤7)(hp:p.length=1)(hon:x.on=true):sy M s x gid (⟨1,tag⟩::⟨1,gd⟩::p):=by
 have vx:=hx.len hs;have h1:=bn.aE K.copy x (by omega);have h2:=aO.aE K.size gd;have h3:=a8.aE K.boxed gd;have n1:¬(p.length:Int)+1+1<2:=by omega
 have el:(p.map aJ).length=p.length:=by simp
 obtain⟨q1,s1,l1⟩:=bV (a:=tag) [32,66,65,68,13,10] (by simp only[ae,ai];omega);obtain⟨q2,s2,l2⟩:=bV (a:=tag) [32,78,79,13,10] (by simp only[ae,ai];omega);obtain⟨q3,s3,l3⟩:=bV (a:=tag) [32,79,75,13,10] (by simp only[ae,ai];omega);simp only[ae,ai] at l1 l2 l3;have hz:dk gd=2:=rfl;rw[hz] at h2;have hn:(p.length:Int)+1+1=3:=by omega
 have hw:IntKind.i64.wrap 3=3:=wrap_i64 (by omega) (by omega);have hb:fR gd=false:=rfl;rw[hb] at h3;obtain⟨a,b,c,d,t,ok,h5⟩:=bQ.aE K.box s (by have:=(bW.1 hs).len;omega) gid gd p (by omega) (.inr (.inl rfl));cases ok with
 |false=>
  refine⟨x,q2,[],true,[],hx,aq (b:=av.m) K.h0 ⟨0, ?_⟩⟩;simp only[ao,boxes,ints,cN,dw,ev,aJ,aL] at h1 h5 el ⊢;rw[hon] at h1 ⊢;generalize au x.view=rv at*;generalize s.boxes.map ah=r1 at*;generalize au s.gone=r2 at*;generalize (p.map fun x:Token=>[I x.kind,S x.text])=rp at*;simp (maxSteps:=9^9) [bB,av.m,av.b,ar,aa,setAt,ak,h1,h2,n1,el,s1,s2,s3,hn,hw,h3,h5,bj]
 |true=>
  refine⟨x,q3,q2,true,[[I a,I b,I c,I d,S t]],hx,aq (b:=av.m) K.h0 ⟨0, ?_⟩⟩;simp only[ao,boxes,ints,cN,dw,ev,aJ,aL] at h1 h5 el ⊢;rw[hon] at h1 ⊢;generalize au x.view=rv at*;generalize s.boxes.map ah=r1 at*;generalize au s.gone=r2 at*;generalize (p.map fun x:Token=>[I x.kind,S x.text])=rp at*;simp (maxSteps:=9^9) [bB,av.m,av.b,ar,aa,setAt,ak,h1,h2,n1,el,s1,s2,s3,hn,hw,h3,h5,bj]
theorem vO(K:sA M)(s:aP)(hs:aW s=true)(x:a5)(hx:fv s x)(gid:Int)(tag:List UInt8)(htag:tag.length≤60)(p:List Token)(hpl:p.length≤7)(hp:p.length=2)(hon:x.on=true):sy M s x gid (⟨1,tag⟩::⟨1,gA⟩::p):=by
 have vx:=hx.len hs;have h1:=bn.aE K.copy x (by omega);have h2:=aO.aE K.size gA;have h3:=a8.aE K.boxed gA;have n1:¬(p.length:Int)+1+1<2:=by omega
 have el:(p.map aJ).length=p.length:=by simp
 obtain⟨q1,s1,l1⟩:=bV (a:=tag) [32,66,65,68,13,10] (by simp only[ae,ai];omega);obtain⟨q2,s2,l2⟩:=bV (a:=tag) [32,78,79,13,10] (by simp only[ae,ai];omega);obtain⟨q3,s3,l3⟩:=bV (a:=tag) [32,79,75,13,10] (by simp only[ae,ai];omega);simp only[ae,ai] at l1 l2 l3;have hz:dk gA=3:=rfl;rw[hz] at h2;have hn:(p.length:Int)+1+1=4:=by omega
 have hw:IntKind.i64.wrap 4=4:=wrap_i64 (by omega) (by omega);have hb:fR gA=false:=rfl;rw[hb] at h3;obtain⟨a,b,c,d,t,ok,h5⟩:=bQ.aE K.box s (by have:=(bW.1 hs).len;omega) gid gA p (by omega) (.inr (.inr (by omega)));cases ok with
 |false=>
  refine⟨x,q2,[],true,[],hx,aq (b:=av.m) K.h0 ⟨0, ?_⟩⟩;simp only[ao,boxes,ints,cN,dw,ev,aJ,aL] at h1 h5 el ⊢;rw[hon] at h1 ⊢;generalize au x.view=rv at*;generalize s.boxes.map ah=r1 at*;generalize au s.gone=r2 at*;generalize (p.map fun x:Token=>[I x.kind,S x.text])=rp at*;simp (maxSteps:=9^9) [bB,av.m,av.b,ar,aa,setAt,ak,h1,h2,n1,el,s1,s2,s3,hn,hw,h3,h5,bj]
 |true=>
  refine⟨x,q3,q2,true,[[I a,I b,I c,I d,S t]],hx,aq (b:=av.m) K.h0 ⟨0, ?_⟩⟩;simp only[ao,boxes,ints,cN,dw,ev,aJ,aL] at h1 h5 el ⊢;rw[hon] at h1 ⊢;generalize au x.view=rv at*;generalize s.boxes.map ah=r1 at*;generalize au s.gone=r2 at*;generalize (p.map fun x:Token=>[I x.kind,S x.text])=rp at*;simp (maxSteps:=9^9) [bB,av.m,av.b,ar,aa,setAt,ak,h1,h2,n1,el,s1,s2,s3,hn,hw,h3,h5,bj]
theorem vR(K:sA M)(s:aP)(hs:aW s=true)(x:a5)(hx:fv s x)(gid:Int)(tag:List UInt8)(htag:tag.length≤60)(p:List Token)(hpl:p.length≤7)(hp:p.length=2)(hon:x.on=true):sy M s x gid (⟨1,tag⟩::⟨1,gY⟩::p):=by
 have vx:=hx.len hs;have h1:=bn.aE K.copy x (by omega);have h2:=aO.aE K.size gY;have h3:=a8.aE K.boxed gY;have n1:¬(p.length:Int)+1+1<2:=by omega
 have el:(p.map aJ).length=p.length:=by simp
 obtain⟨q1,s1,l1⟩:=bV (a:=tag) [32,66,65,68,13,10] (by simp only[ae,ai];omega);obtain⟨q2,s2,l2⟩:=bV (a:=tag) [32,78,79,13,10] (by simp only[ae,ai];omega);obtain⟨q3,s3,l3⟩:=bV (a:=tag) [32,79,75,13,10] (by simp only[ae,ai];omega);simp only[ae,ai] at l1 l2 l3;have hz:dk gY=3:=rfl;rw[hz] at h2;have hn:(p.length:Int)+1+1=4:=by omega
 have hw:IntKind.i64.wrap 4=4:=wrap_i64 (by omega) (by omega);have hb:fR gY=false:=rfl;rw[hb] at h3;obtain⟨a,b,c,d,t,ok,h5⟩:=bQ.aE K.box s (by have:=(bW.1 hs).len;omega) gid gY p (by omega) (.inr (.inr (by omega)));cases ok with
 |false=>
  refine⟨x,q2,[],true,[],hx,aq (b:=av.m) K.h0 ⟨0, ?_⟩⟩;simp only[ao,boxes,ints,cN,dw,ev,aJ,aL] at h1 h5 el ⊢;rw[hon] at h1 ⊢;generalize au x.view=rv at*;generalize s.boxes.map ah=r1 at*;generalize au s.gone=r2 at*;generalize (p.map fun x:Token=>[I x.kind,S x.text])=rp at*;simp (maxSteps:=9^9) [bB,av.m,av.b,ar,aa,setAt,ak,h1,h2,n1,el,s1,s2,s3,hn,hw,h3,h5,bj]
 |true=>
  refine⟨x,q3,q2,true,[[I a,I b,I c,I d,S t]],hx,aq (b:=av.m) K.h0 ⟨0, ?_⟩⟩;simp only[ao,boxes,ints,cN,dw,ev,aJ,aL] at h1 h5 el ⊢;rw[hon] at h1 ⊢;generalize au x.view=rv at*;generalize s.boxes.map ah=r1 at*;generalize au s.gone=r2 at*;generalize (p.map fun x:Token=>[I x.kind,S x.text])=rp at*;simp (maxSteps:=9^9) [bB,av.m,av.b,ar,aa,setAt,ak,h1,h2,n1,el,s1,s2,s3,hn,hw,h3,h5,bj]
theorem av.aE(h:av.k M)(s:aP)(hs:aW s=true)(x:a5)(hx:fv s x)(gid:Int)(l:List Token)(hl:l.length≤9)(ht:∀t∈l,t.text.length≤60):sy M s x gid l:=by
 obtain⟨h0,k1,k2,k3,k4,k5,k6,k7⟩:=h;have K:sA M:=⟨h0,k1,k2,k3,k4,k5,k6,k7⟩
 match l,hl,ht with
 |[],_,_=>exact o_ K s hs x hx gid _ (.inl (by simp))
 |[a],_,_=>exact o_ K s hs x hx gid _ (.inl (by simp))
 |a::b::p,hl,ht=>
  by_cases c:a.kind=1∧b.kind=1
  ·obtain⟨ka,tag⟩:=a;obtain⟨kb,w⟩:=b;obtain⟨rfl,rfl⟩:=c;have htag:tag.length≤60:=ht ⟨1,tag⟩ (by simp);have hpl:p.length≤7:=by simp at hl;omega
   have hpt:∀t∈p,t.text.length≤60:=fun t h=>ht t (by simp[h])
   by_cases cz:dk w=0∨¬(p.length:Int)+1+1=dk w+1
   ·exact zI K s hs x hx gid tag htag w p hpl cz
   ·have hz:¬dk w=0:=fun z=>cz (.inl z)
    have hn:(p.length:Int)+1+1=dk w+1:=Classical.byContradiction fun z=>cz (.inr z)
    by_cases cLOGIN:w=jC
    ·subst cLOGIN;have e:dk jC=3:=rfl;exact xP K s hs x hx gid tag htag p hpl (by omega)
    by_cases cNOOP:w=lQ
    ·subst cNOOP;have e:dk lQ=1:=rfl;exact zJ K s hs x hx gid tag htag p hpl (by omega)
    by_cases cLOGOUT:w=il
    ·subst cLOGOUT;have e:dk il=1:=rfl;exact vL K s hs x hx gid tag htag p hpl (by omega)
    by_cases ho:x.on=false∨(fR w=true∧x.box=0)
    ·exact A0 K s hs x hx gid tag htag w p hpl cLOGIN cNOOP cLOGOUT hz hn ho
    have hon:x.on=true:=by cases q:x.on with|true=>rfl|false=>exact(ho (.inl q)).elim
    by_cases cLIST:w=kj
    ·subst cLIST;have e:dk kj=1:=rfl;exact zK K s hs x hx gid tag htag p hpl (by omega) hon
    by_cases cSELECT:w=gy
    ·subst cSELECT;have e:dk gy=2:=rfl;exact vN K s hs x hx gid tag htag p hpl (by omega) hon
    by_cases cSTATUS:w=gx
    ·subst cSTATUS;have e:dk gx=2:=rfl;exact vM K s hs x hx gid tag htag p hpl (by omega) hon
    by_cases cFETCH:w=gj
    ·subst cFETCH;have e:dk gj=2:=rfl;exact xR K s hs x hx gid tag htag p hpl (by omega) hpt hon (fun z=>ho (.inr ⟨rfl,z⟩))
    by_cases cSTORE:w=fG
    ·subst cSTORE;have e:dk fG=3:=rfl;exact xQ K s hs x hx gid tag htag p hpl (by omega) hpt hon (fun z=>ho (.inr ⟨rfl,z⟩))
    by_cases cEXPUNGE:w=eG
    ·subst cEXPUNGE;have e:dk eG=1:=rfl;exact tG K s hs x hx gid tag htag p hpl (by omega) hpt hon (fun z=>ho (.inr ⟨rfl,z⟩))
    by_cases cCREATE:w=gf
    ·subst cCREATE;have e:dk gf=2:=rfl;exact vQ K s hs x hx gid tag htag p hpl (by omega) hon
    by_cases cDELETE:w=gd
    ·subst cDELETE;have e:dk gd=2:=rfl;exact vP K s hs x hx gid tag htag p hpl (by omega) hon
    by_cases cRENAME:w=gA
    ·subst cRENAME;have e:dk gA=3:=rfl;exact vO K s hs x hx gid tag htag p hpl (by omega) hon
    by_cases cAPPEND:w=gY
    ·subst cAPPEND;have e:dk gY=3:=rfl;exact vR K s hs x hx gid tag htag p hpl (by omega) hon
    exact(hz (by simp[dk,cLOGIN,cRENAME,cAPPEND,cSTORE,cCREATE,cDELETE,cSELECT,cSTATUS,cFETCH,cNOOP,cLOGOUT,cLIST,cEXPUNGE])).elim
  ·exact o_ K s hs x hx gid _ (.inr ⟨a,b,p,rfl,c⟩)
def dz(l:List UInt8)(a:Nat)(m b:Bool):Nat×Ob:=(0,⟨0,4,true,true,[[S l,I a,.bool m,.bool b]]⟩)
theorem va(h:aV.k M)(l:List UInt8)(a:Nat)(m b:Bool)(hs:m=true∨b=true):
  run M 304 [.c (.ptr 0 0 0 0)] [dz l a m b]=some (.hC [.c (U8 0),.c (.bool false)],[dz l a m b]):=by
 refine aq (b:=aV.m) h ⟨0, ?_⟩;simp only[dz];cases m with
 |true=>simp (maxSteps:=9^9) [bB,aV.m,aV.b,ar,aa,setAt,ak]
 |false=>
  cases b with
  |true=>simp (maxSteps:=9^9) [bB,aV.m,aV.b,ar,aa,setAt,ak]
  |false=>simp at hs
theorem iK(h:aV.k M)(l:List UInt8)(hl:l.length≤1048576)(a:Nat)(ha:l.length≤a):
  run M 304 [.c (.ptr 0 0 0 0)] [dz l a false false]=some (.hC [.c (U8 0),.c (.bool false)],[dz l a true false]):=by
 refine aq (b:=aV.m) h ⟨0, ?_⟩;simp only[dz];have c1:(l.length:Int)≤a:=by omega
 simp (maxSteps:=9^9) [bB,aV.m,aV.b,ar,aa,setAt,ak,c1]
theorem jT(h:aV.k M)(l:List UInt8)(hl:l.length≤1048576)(a:Nat)(ha:a<l.length):
  run M 304 [.c (.ptr 0 0 0 0)] [dz l a false false]=some (.hC [.c (U8 l[a].toNat),.c (.bool true)],[dz l a false false]):=by
 refine aq (b:=aV.m) h ⟨0, ?_⟩;simp only[dz];have c1:¬(l.length:Int)≤a:=by omega
 simp (maxSteps:=9^9) [bB,aV.m,aV.b,ar,aa,setAt,ak,c1,ha]
theorem kX.aE(h:bq.k M)(l:List UInt8)(hl:l.length≤1048576)(a:Nat)(ha:a≤l.length)(m b:Bool)(c:Nat):
  ∃a' m' b',a'≤l.length∧run M 305 [.c (.ptr 0 0 0 0),.c (U8 c)] [dz l a m b]=some (.hC [],[dz l a' m' b']):=by
 obtain⟨h0,kn⟩:=h;by_cases c0:m=true∨b=true
 ·have h1:=va kn l a m b c0;refine⟨a,m,b,ha,aq (b:=bq.m) h0 ⟨0, ?_⟩⟩;simp only[dz] at h1 ⊢;simp (maxSteps:=9^9) [bB,bq.m,bq.b,ar,aa,setAt,ak,h1]
 ·cases m with
  |true=>simp at c0
  |false=>
   cases b with
   |true=>simp at c0
   |false=>
    by_cases c1:a<l.length
    ·have h1:=jT kn l hl a c1;have e1:=dS (i:=a) (by omega);generalize l[a].toNat=z at*;by_cases c2:(z:Int)=c
     ·refine⟨a+1,false,false,c1,aq (b:=bq.m) h0 ⟨0, ?_⟩⟩;simp only[dz] at h1 ⊢;simp (maxSteps:=9^9) [bB,bq.m,bq.b,ar,aa,setAt,ak,h1,c2,e1]
     ·refine⟨a,false,true,ha,aq (b:=bq.m) h0 ⟨0, ?_⟩⟩;simp only[dz] at h1 ⊢;simp (maxSteps:=9^9) [bB,bq.m,bq.b,ar,aa,setAt,ak,h1,c2]
    ·have h1:=iK kn l hl a (by omega);refine⟨a,true,false,ha,aq (b:=bq.m) h0 ⟨0, ?_⟩⟩;simp only[dz] at h1 ⊢;simp (maxSteps:=9^9) [bB,bq.m,bq.b,ar,aa,setAt,ak,h1]
structure CI where
 s:List UInt8
 a:Nat
 e:List (Nat×V)
 n:Nat
def mO(l:List UInt8)(s:CI):St:={t:=(0,.c (.ptr 0 0 0 0))::(3,.c (S s.s))::s.e,o:=[dz l s.a false false],n:=s.n}
structure B3 (l:List UInt8) (s:CI):Prop where
 a:s.a≤l.length
 s:s.s.length≤60
def Ck(l:List UInt8)(r:Out×St):Prop:=(∃a m b n,a≤l.length∧r=(.ret,{t:=[(2,.c (S []))],o:=[dz l a m b],n:=n}))∨
 (∃s a n,s.length≤60∧a≤l.length∧r=(.exit 0,{t:=[(0,.c (.ptr 0 0 0 0)),(3,.c (S s)),(4,.c (U8 34)),(32,.c (.bool true))],o:=[dz l a false false],n:=n}))
theorem y5(kn:aV.k M)(k:Nat)(l:List UInt8)(hl:l.length≤1048576)(s:CI)(hs:B3 l s):
  (∃s',b9 (run M) k aK.l0 (mO l s)=some (.normal,mO l s')∧B3 l s'∧l.length-s'.a<l.length-s.a)∨(∃r,b9 (run M) k aK.l0 (mO l s)=some r∧r.1≠.normal∧Ck l r):=by
 obtain⟨s,a,e,n⟩:=s;obtain⟨ha,hsl⟩:=hs;simp only at ha hsl;by_cases c1:a<l.length
 ·have h1:=jT kn l hl a c1;have e1:IntKind.i64.wrap ((a:Int)+1)=(a:Int)+1:=wrap_i64 (by omega) (by omega);have hr:fz [[U8 l[a].toNat]]=some [l[a]]:=j5 [l[a]];have hadd:∀y:UInt8,eN .add (bs s) ⟨#[y]⟩=some (S (s++[y])):=fun y=>ak s [y] (by simp;omega)
  have key:∀(z:UInt8) (a':Nat),a'≤l.length→a<a'→(60<s.length+1→∃n',b9 (run M) k aK.l0 (mO l ⟨s,a,e,n⟩)=some (.ret,{t:=[(2,.c (S []))],o:=[dz l a' false true],n:=n'}))→
    (¬60<s.length+1→∃n',b9 (run M) k aK.l0 (mO l ⟨s,a,e,n⟩)=some (.normal,mO l ⟨s++[z],a',[(76,.c (.bool false))],n'⟩))→
    (∃s',b9 (run M) k aK.l0 (mO l ⟨s,a,e,n⟩)=some (.normal,mO l s')∧B3 l s'∧l.length-s'.a<l.length-a)∨(∃r,b9 (run M) k aK.l0 (mO l ⟨s,a,e,n⟩)=some r∧r.1≠.normal∧Ck l r):=by
   intro z a' ha' hlt h1 h2;by_cases c:60<s.length+1
   ·obtain⟨n',h1⟩:=h1 c;exact .inr ⟨_,h1,by simp,.inl ⟨a',false,true,n',ha',rfl⟩⟩
   ·obtain⟨n',h2⟩:=h2 c;exact .inl ⟨_,h2,⟨ha',by simp;omega⟩,by simp only;omega⟩
  have fail:∀(a':Nat) (m b:Bool),a'≤l.length→(∃n',b9 (run M) k aK.l0 (mO l ⟨s,a,e,n⟩)=some (.ret,{t:=[(2,.c (S []))],o:=[dz l a' m b],n:=n'}))→
    (∃s',b9 (run M) k aK.l0 (mO l ⟨s,a,e,n⟩)=some (.normal,mO l s')∧B3 l s'∧l.length-s'.a<l.length-a)∨(∃r,b9 (run M) k aK.l0 (mO l ⟨s,a,e,n⟩)=some r∧r.1≠.normal∧Ck l r):=by
   intro a' m b ha' ⟨n',h⟩;exact .inr ⟨_,h,by simp,.inl ⟨a',m,b,n',ha',rfl⟩⟩
  by_cases c2:(l[a].toNat:Int)=34
  ·right;have hh:∃n',b9 (run M) k aK.l0 (mO l ⟨s,a,e,n⟩)=some (.exit 0,{t:=[(0,.c (.ptr 0 0 0 0)),(3,.c (S s)),(4,.c (U8 34)),(32,.c (.bool true))],o:=[dz l (a+1) false false],n:=n'}):=by
    simp only[mO,dz] at h1 ⊢;rw[c2] at h1;simp (maxSteps:=9^9) [aK.l0,ar,aa,setAt,ak,h1,e1]
   obtain⟨n',hh⟩:=hh;exact⟨_,hh,by simp,.inr ⟨s,a+1,n',hsl,c1,rfl⟩⟩
  ·by_cases c3:(l[a].toNat:Int)=92
   ·by_cases c4:a+1<l.length
    ·have h2:=jT kn l hl (a+1) c4;have e2:IntKind.i64.wrap ((a:Int)+1+1)=(a:Int)+1+1:=wrap_i64 (by omega) (by omega);have hr2:fz [[U8 l[a+1].toNat]]=some [l[a+1]]:=j5 [l[a+1]];have hb:((a+1:Nat):Int)=(a:Int)+1:=by omega
     simp only[dz,hb] at h2;by_cases c5:(l[a+1].toNat:Int)=34∨(l[a+1].toNat:Int)=92
     ·have c6:¬(l[a+1].toNat:Int)=34→(l[a+1].toNat:Int)=92:=fun q=>c5.resolve_left q
      refine key l[a+1] (a+1+1) c4 (by omega) (fun c=> ?_) (fun c=> ?_)
      ·have c7:(60:Int)<s.length+1:=by omega
       simp only[mO,dz] at h1 ⊢;rw[c3] at h1;generalize l[a+1]=y at*;generalize (y.toNat:Int)=w at*;by_cases c8:w=34
       ·simp (maxSteps:=9^9) [aK.l0,ar,aa,setAt,ak,h1,h2,e1,e2,hr2,hadd,c7,decide_eq_true c8]
       ·have c9:=c6 c8;simp (maxSteps:=9^9) [aK.l0,ar,aa,setAt,ak,h1,h2,e1,e2,hr2,hadd,c7,decide_eq_false c8,decide_eq_true c9]
      ·have c7:¬(60:Int)<s.length+1:=by omega
       simp only[mO,dz] at h1 ⊢;rw[c3] at h1;generalize l[a+1]=y at*;generalize (y.toNat:Int)=w at*;by_cases c8:w=34
       ·simp (maxSteps:=9^9) [aK.l0,ar,aa,setAt,ak,h1,h2,e1,e2,hr2,hadd,c7,decide_eq_true c8]
       ·have c9:=c6 c8;simp (maxSteps:=9^9) [aK.l0,ar,aa,setAt,ak,h1,h2,e1,e2,hr2,hadd,c7,decide_eq_false c8,decide_eq_true c9]
     ·have c6:¬(l[a+1].toNat:Int)=34:=fun q=>c5 (.inl q)
      have c7:¬(l[a+1].toNat:Int)=92:=fun q=>c5 (.inr q)
      refine fail (a+1) false true (by omega) ?_;simp only[mO,dz] at h1 ⊢;rw[c3] at h1;generalize (l[a+1].toNat:Int)=w at*;simp (maxSteps:=9^9) [aK.l0,ar,aa,setAt,ak,h1,h2,e1,e2,c6,c7]
    ·have h2:=iK kn l hl (a+1) (by omega);have hb:((a+1:Nat):Int)=(a:Int)+1:=by omega
     simp only[dz,hb] at h2;refine fail (a+1) true false (by omega) ?_;simp only[mO,dz] at h1 ⊢;rw[c3] at h1;simp (maxSteps:=9^9) [aK.l0,ar,aa,setAt,ak,h1,h2,e1]
   ·by_cases c4:(l[a].toNat:Int)<32∨126<(l[a].toNat:Int)
    ·have c5:¬(l[a].toNat:Int)<32→126<(l[a].toNat:Int):=fun q=>c4.resolve_left q
     refine fail (a+1) false true (by omega) ?_;simp only[mO,dz] at h1 ⊢;generalize (l[a].toNat:Int)=w at*;by_cases c6:w<32
     ·simp (maxSteps:=9^9) [aK.l0,ar,aa,setAt,ak,h1,e1,c2,c3,c6]
     ·have c7:=c5 c6;simp (maxSteps:=9^9) [aK.l0,ar,aa,setAt,ak,h1,e1,c2,c3,c6,c7]
    ·have c5:¬(l[a].toNat:Int)<32:=fun q=>c4 (.inl q)
     have c6:¬126<(l[a].toNat:Int):=fun q=>c4 (.inr q)
     refine key l[a] (a+1) c1 (by omega) (fun c=> ?_) (fun c=> ?_)
     ·have c7:(60:Int)<s.length+1:=by omega
      simp only[mO,dz] at h1 ⊢;generalize l[a]=y at*;generalize (y.toNat:Int)=w at*;simp (maxSteps:=9^9) [aK.l0,ar,aa,setAt,ak,h1,e1,hr,hadd,c2,c3,c5,c6,c7]
     ·have c7:¬(60:Int)<s.length+1:=by omega
      simp only[mO,dz] at h1 ⊢;generalize l[a]=y at*;generalize (y.toNat:Int)=w at*;simp (maxSteps:=9^9) [aK.l0,ar,aa,setAt,ak,h1,e1,hr,hadd,c2,c3,c5,c6,c7]
 ·right;have h1:=iK kn l hl a (by omega);have hh:∃n',b9 (run M) k aK.l0 (mO l ⟨s,a,e,n⟩)=some (.ret,{t:=[(2,.c (S []))],o:=[dz l a true false],n:=n'}):=by
   simp only[mO,dz] at h1 ⊢;simp (maxSteps:=9^9) [aK.l0,ar,aa,setAt,ak,h1]
  obtain⟨n',hh⟩:=hh;exact⟨_,hh,by simp,.inl ⟨a,true,false,n',ha,rfl⟩⟩
theorem rD.aE(h:aK.k M)(l:List UInt8)(hl:l.length≤1048576)(a:Nat)(ha:a<l.length):
  ∃s a' m b,s.length≤60∧a'≤l.length∧run M 316 [.c (.ptr 0 0 0 0)] [dz l a false false]=some (.c (S s),[dz l a' m b]):=by
 obtain⟨h0,kn⟩:=h;have e1:IntKind.i64.wrap ((a:Int)+1)=(a:Int)+1:=wrap_i64 (by omega) (by omega);have hb:((a+1:Nat):Int)=(a:Int)+1:=by omega
 obtain⟨r,hr,hP⟩:=fc (f:=b9 (run M) (l.length+1) aK.l0) (mO l) (B3 l) (fun s=>l.length-s.a) (Ck l) (fun s hs=>y5 kn _ l hl s hs) (l.length+1) ⟨[],a+1,[],2000176⟩ ⟨by simp only;omega,by simp⟩ (by simp only;omega);rcases hP with⟨a',m,b,n',ha',rfl⟩|⟨s,a',n',hs,ha',rfl⟩
 ·refine⟨[],a',m,b,by simp,ha',aq (b:=aK.m) h0 ⟨l.length+1, ?_⟩⟩;simp only[mO,dz,hb] at hr ⊢;simp (maxSteps:=9^9) [bB,aK.m,aK.b,ar,aa,setAt,ak,hr,e1]
 ·refine⟨s,a',false,false,hs,ha',aq (b:=aK.m) h0 ⟨l.length+1, ?_⟩⟩;simp only[mO,dz,hb] at hr ⊢;simp (maxSteps:=9^9) [bB,aK.m,aK.b,ar,aa,setAt,ak,hr,e1]
structure CJ where
 d:Nat
 m:Nat
 a:Nat
 n:Nat
def wj(d m:Nat):List (Nat×V):=[(0,.c (.ptr 0 0 0 0)),(3,.c (I m)),(4,.c (I d))]
def qW(l:List UInt8)(s:CJ):St:={t:=wj s.d s.m,o:=[dz l s.a false false],n:=s.n}
structure CK (l:List UInt8) (s:CJ):Prop where
 a:s.a≤l.length
 d:s.d≤2
 m:s.m≤99
 m0:s.d=0→s.m=0
 m1:s.d=1→s.m≤9
def CT(l:List UInt8)(r:Out×St):Prop:=(∃a m b n,a≤l.length∧r=(.ret,{t:=[(2,.c (S []))],o:=[dz l a m b],n:=n}))∨
 (∃d m a n,d≤2∧m≤99∧a<l.length∧r=(.exit 0,{t:=wj d m++[(5,.c (U8 125)),(24,.c (.bool true))],o:=[dz l a false false],n:=n}))
theorem zf(kn:aV.k M)(k:Nat)(l:List UInt8)(hl:l.length≤1048576)(s:CJ)(hs:CK l s):
  (∃s',b9 (run M) k aB.l0 (qW l s)=some (.normal,qW l s')∧CK l s'∧l.length-s'.a<l.length-s.a)∨(∃r,b9 (run M) k aB.l0 (qW l s)=some r∧r.1≠.normal∧CT l r):=by
 obtain⟨d,m,a,n⟩:=s;obtain⟨ha,hd,hm,hm0,hm1⟩:=hs;simp only at ha hd hm hm0 hm1;by_cases c1:a<l.length
 ·have h1:=jT kn l hl a c1;have e1:IntKind.i64.wrap ((a:Int)+1)=(a:Int)+1:=wrap_i64 (by omega) (by omega);by_cases c2:(l[a].toNat:Int)=125
  ·right;have hh:∃n',b9 (run M) k aB.l0 (qW l ⟨d,m,a,n⟩)=some (.exit 0,{t:=wj d m++[(5,.c (U8 125)),(24,.c (.bool true))],o:=[dz l a false false],n:=n'}):=by
    simp only[qW,wj,dz] at h1 ⊢;rw[c2] at h1;simp (maxSteps:=9^9) [aB.l0,ar,aa,setAt,ak,h1]
   obtain⟨n',hh⟩:=hh;exact⟨_,hh,by simp,.inr ⟨d,m,a,n',hd,hm,c1,rfl⟩⟩
  ·by_cases c3:(48≤(l[a].toNat:Int)∧(l[a].toNat:Int)≤57)∧d<2
   ·obtain⟨⟨c3,c4⟩,c5⟩:=c3;left;have hmm:10*m+(l[a].toNat-48)≤99∧(d=0→10*m+(l[a].toNat-48)≤9):=by
     have:d=0∨d=1:=by omega
     rcases this with e|e
     ·have:=hm0 e;omega
     ·have:=hm1 e;omega
    have hh:∃n',b9 (run M) k aB.l0 (qW l ⟨d,m,a,n⟩)=some (.normal,qW l ⟨d+1,10*m+(l[a].toNat-48),a+1,n'⟩):=by
     have ez:((10*m+(l[a].toNat-48):Nat):Int)=10*(m:Int)+(l[a].toNat:Int)-48:=by omega
     simp only[qW,wj,dz,ez] at h1 ⊢;generalize (l[a].toNat:Int)=z at*;have e2:IntKind.i64.wrap ((d:Int)+1)=(d:Int)+1:=wrap_i64 (by omega) (by omega);have e3:IntKind.i64.wrap (10*(m:Int))=10*(m:Int):=wrap_i64 (by omega) (by omega);have e4:IntKind.i64.wrap z=z:=wrap_i64 (by omega) (by omega);have e5:IntKind.i64.wrap (10*(m:Int)+z)=10*(m:Int)+z:=wrap_i64 (by omega) (by omega);have e6:IntKind.i64.wrap (10*(m:Int)+z-48)=10*(m:Int)+z-48:=wrap_i64 (by omega) (by omega);have q1:¬z<48:=by omega
     have q2:¬57<z:=by omega
     have q3:¬(d:Int)=2:=by omega
     simp (maxSteps:=9^9) [aB.l0,ar,aa,setAt,ak,h1,e1,e2,e3,e4,e5,e6,c2,q1,q2,q3]
    obtain⟨n',hh⟩:=hh;exact⟨_,hh,⟨c1,by simp only;omega,by simp only;omega,by simp only;omega,by simp only;intro q;exact hmm.2 (by omega)⟩,by simp only;omega⟩
   ·right;have hh:∃n',b9 (run M) k aB.l0 (qW l ⟨d,m,a,n⟩)=some (.ret,{t:=[(2,.c (S []))],o:=[dz l a false true],n:=n'}):=by
     simp only[qW,wj,dz] at h1 ⊢;generalize (l[a].toNat:Int)=z at*;by_cases q1:z<48
     ·simp (maxSteps:=9^9) [aB.l0,ar,aa,setAt,ak,h1,c2,q1]
     ·by_cases q2:57<z
      ·simp (maxSteps:=9^9) [aB.l0,ar,aa,setAt,ak,h1,c2,q1,q2]
      ·have q3:d=2:=by omega
       subst q3;simp (maxSteps:=9^9) [aB.l0,ar,aa,setAt,ak,h1,c2,q1,q2]
    obtain⟨n',hh⟩:=hh;exact⟨_,hh,by simp,.inl ⟨a,false,true,n',ha,rfl⟩⟩
 ·right;have h1:=iK kn l hl a (by omega);have hh:∃n',b9 (run M) k aB.l0 (qW l ⟨d,m,a,n⟩)=some (.ret,{t:=[(2,.c (S []))],o:=[dz l a true false],n:=n'}):=by
   simp only[qW,wj,dz] at h1 ⊢;simp (maxSteps:=9^9) [aB.l0,ar,aa,setAt,ak,h1]
  obtain⟨n',hh⟩:=hh;exact⟨_,hh,by simp,.inl ⟨a,true,false,n',ha,rfl⟩⟩
theorem qq.aE(h:aB.k M)(l:List UInt8)(hl:l.length≤1048576)(a:Nat)(ha:a<l.length):
  ∃s a' m b,s.length≤60∧a'≤l.length∧run M 317 [.c (.ptr 0 0 0 0)] [dz l a false false]=some (.c (S s),[dz l a' m b]):=by
 obtain⟨h0,kn,km⟩:=h;have e1:IntKind.i64.wrap ((a:Int)+1)=(a:Int)+1:=wrap_i64 (by omega) (by omega);have hb:((a+1:Nat):Int)=(a:Int)+1:=by omega
 obtain⟨r,hr,hP⟩:=fc (f:=b9 (run M) (l.length+1) aB.l0) (qW l) (CK l) (fun s=>l.length-s.a) (CT l) (fun s hs=>zf kn _ l hl s hs) (l.length+1) ⟨0,0,a+1,2000192⟩ ⟨by simp only;omega,by simp,by simp,by simp,by simp⟩ (by simp only;omega);have e0:((0:Nat):Int)=0:=rfl;rcases hP with⟨a',m,b,n',ha',rfl⟩|⟨d,m,a1,n',hd,hm,ha1,rfl⟩
 ·refine⟨[],a',m,b,by simp,ha',aq (b:=aB.m) h0 ⟨l.length+1, ?_⟩⟩;simp only[qW,wj,dz,hb,e0] at hr ⊢;simp (maxSteps:=9^9) [bB,aB.m,aB.b,ar,aa,setAt,ak,hr,e1]
 ·have e2:IntKind.i64.wrap ((a1:Int)+1)=(a1:Int)+1:=wrap_i64 (by omega) (by omega);have hb2:((a1+1:Nat):Int)=(a1:Int)+1:=by omega
  by_cases c1:d=0∨60<m
  ·refine⟨[],a1,false,true,by simp,by omega,aq (b:=aB.m) h0 ⟨l.length+1, ?_⟩⟩;simp only[qW,wj,dz,hb,e0] at hr ⊢;by_cases q1:d=0
   ·subst q1;simp (maxSteps:=9^9) [bB,aB.m,aB.b,ar,aa,setAt,ak,hr,e1]
   ·have q2:(60:Int)<m:=by omega
    have q3:¬(d:Int)=0:=by omega
    simp (maxSteps:=9^9) [bB,aB.m,aB.b,ar,aa,setAt,ak,hr,e1,q1,q2,q3]
  ·have q1:¬d=0:=fun q=>c1 (.inl q)
   have q2:¬(60:Int)<m:=fun q=>c1 (.inr (by omega))
   have q3:¬(d:Int)=0:=by omega
   obtain⟨a2,m2,b2,ha2,h2⟩:=kX.aE km l hl (a1+1) ha1 false false 13;obtain⟨a3,m3,b3,ha3,h3⟩:=kX.aE km l hl a2 ha2 m2 b2 10;simp only[dz,hb2,cq] at h2 h3;by_cases c2:b3=true∨m3=true
   ·refine⟨[],a3,m3,b3,by simp,ha3,aq (b:=aB.m) h0 ⟨l.length+1, ?_⟩⟩;simp only[qW,wj,dz,hb,e0] at hr ⊢;cases b3 with
    |true=>simp (maxSteps:=9^9) [bB,aB.m,aB.b,ar,aa,setAt,ak,hr,e1,e2,q1,q2,q3,h2,h3]
    |false=>
     have c3:m3=true:=by simpa using c2
     subst c3;simp (maxSteps:=9^9) [bB,aB.m,aB.b,ar,aa,setAt,ak,hr,e1,e2,q1,q2,q3,h2,h3]
   ·have c3:b3=false:=by cases b3 with|true=>exact(c2 (.inl rfl)).elim|false=>rfl
    have c4:m3=false:=by cases m3 with|true=>exact(c2 (.inr rfl)).elim|false=>rfl
    subst c3 c4;have e4:IntKind.i64.wrap ((l.length:Int)-a3)=(l.length:Int)-a3:=wrap_i64 (by omega) (by omega);by_cases c5:(l.length:Int)-a3<m
    ·refine⟨[],a3,true,false,by simp,ha3,aq (b:=aB.m) h0 ⟨l.length+1, ?_⟩⟩;simp only[qW,wj,dz,hb,e0] at hr ⊢;simp (maxSteps:=9^9) [bB,aB.m,aB.b,ar,aa,setAt,ak,hr,e1,e2,q1,q2,q3,h2,h3,e4,c5]
    ·have e5:IntKind.i64.wrap ((a3:Int)+m)=((a3+m:Nat):Int):=by rw[Int.natCast_add];exact wrap_i64 (by omega) (by omega)
     have e6:a3+m≤l.length:=by omega
     refine⟨(l.take (a3+m)).drop a3,a3+m,false,false,by simp;omega,e6,aq (b:=aB.m) h0 ⟨l.length+1, ?_⟩⟩;simp only[qW,wj,dz,hb,e0] at hr ⊢;generalize hz:((a3+m:Nat):Int)=z at*;have hz1:0≤z:=by omega
     have hz2:z.toNat=a3+m:=by omega
     simp (maxSteps:=9^9) [bB,aB.m,aB.b,ar,aa,setAt,ak,hr,e1,e2,q1,q2,q3,h2,h3,e4,c5,e5,e6,hz1,hz2]
structure CN where
 a:Nat
 n:Nat
def zM(g:Nat):List (Nat×V):=[(0,.c (.ptr 0 0 0 0)),(3,.c (I g))]
def uC(l:List UInt8)(g:Nat)(s:CN):St:={t:=zM g,o:=[dz l s.a false false],n:=s.n}
structure CO (l:List UInt8) (g:Nat) (s:CN):Prop where
 a:s.a≤l.length
 g:g≤s.a
def CX(l:List UInt8)(g:Nat)(r:Out×St):Prop:=(∃a m b n,a≤l.length∧r=(.ret,{t:=[(2,.c (S []))],o:=[dz l a m b],n:=n}))∨
 (∃a n,g≤a∧a≤l.length∧r=(.exit 0,{t:=zM g++[(22,.c (.bool true))],o:=[dz l a false false],n:=n}))
theorem zL(kn:aV.k M)(ka:bw.k M)(k:Nat)(l:List UInt8)(hl:l.length≤1048576)(g:Nat)(s:CN)(hs:CO l g s):
  (∃s',b9 (run M) k aZ.l0 (uC l g s)=some (.normal,uC l g s')∧CO l g s'∧l.length-s'.a<l.length-s.a)∨(∃r,b9 (run M) k aZ.l0 (uC l g s)=some r∧r.1≠.normal∧CX l g r):=by
 obtain⟨a,n⟩:=s;obtain⟨ha,hg⟩:=hs;simp only at ha hg;by_cases c1:a<l.length
 ·have h1:=jT kn l hl a c1;have e1:IntKind.i64.wrap ((a:Int)+1)=(a:Int)+1:=wrap_i64 (by omega) (by omega);have hr:fz [[U8 l[a].toNat]]=some [l[a]]:=j5 [l[a]];have h2:run M 325 [.c (.str ⟨#[l[a]]⟩)] []=some (.c (.bool (kS [l[a]])),[]):=bw.aE ka [l[a]] (by simp);generalize kS [l[a]]=z at*;cases z with
  |true=>
   left;have hh:∃n',b9 (run M) k aZ.l0 (uC l g ⟨a,n⟩)=some (.normal,uC l g ⟨a+1,n'⟩):=by
    simp only[uC,zM,dz] at h1 ⊢;generalize l[a]=y at*;simp (maxSteps:=9^9) [aZ.l0,ar,aa,setAt,ak,h1,h2,hr,e1]
   obtain⟨n',hh⟩:=hh;exact⟨_,hh,⟨c1,by simp only;omega⟩,by simp only;omega⟩
  |false=>
   right;have hh:∃n',b9 (run M) k aZ.l0 (uC l g ⟨a,n⟩)=some (.exit 0,{t:=zM g++[(22,.c (.bool true))],o:=[dz l a false false],n:=n'}):=by
    simp only[uC,zM,dz] at h1 ⊢;generalize l[a]=y at*;simp (maxSteps:=9^9) [aZ.l0,ar,aa,setAt,ak,h1,h2,hr]
   obtain⟨n',hh⟩:=hh;exact⟨_,hh,by simp,.inr ⟨a,n',hg,ha,rfl⟩⟩
 ·right;have h1:=iK kn l hl a (by omega);have hh:∃n',b9 (run M) k aZ.l0 (uC l g ⟨a,n⟩)=some (.ret,{t:=[(2,.c (S []))],o:=[dz l a true false],n:=n'}):=by
   simp only[uC,zM,dz] at h1 ⊢;simp (maxSteps:=9^9) [aZ.l0,ar,aa,setAt,ak,h1]
  obtain⟨n',hh⟩:=hh;exact⟨_,hh,by simp,.inl ⟨a,true,false,n',ha,rfl⟩⟩
theorem tB{l:List UInt8}(h:kS l=true):l.length≤40:=by
 unfold kS at h;simp only[aj,decide_eq_true_eq] at h;omega
theorem uW.aE(h:aZ.k M)(l:List UInt8)(hl:l.length≤1048576)(a:Nat)(ha:a≤l.length):
  ∃s a' m b,s.length≤60∧a'≤l.length∧run M 318 [.c (.ptr 0 0 0 0)] [dz l a false false]=some (.c (S s),[dz l a' m b]):=by
 obtain⟨h0,kn,ka⟩:=h;obtain⟨r,hr,hP⟩:=fc (f:=b9 (run M) (l.length+1) aZ.l0) (uC l a) (CO l a) (fun s=>l.length-s.a) (CX l a) (fun s hs=>zL kn ka _ l hl a s hs) (l.length+1) ⟨a,2000096⟩ ⟨ha,Nat.le_refl _⟩ (by simp only;omega);rcases hP with⟨a',m,b,n',ha',rfl⟩|⟨a1,n',hg,ha1,rfl⟩
 ·refine⟨[],a',m,b,by simp,ha',aq (b:=aZ.m) h0 ⟨l.length+1, ?_⟩⟩;simp only[uC,zM,dz] at hr ⊢;simp (maxSteps:=9^9) [bB,aZ.m,aZ.b,ar,aa,setAt,ak,hr]
 ·have h2:=bw.aE ka ((l.take a1).drop a) (by simp;omega);cases hz:kS ((l.take a1).drop a) with
  |true=>
   refine⟨(l.take a1).drop a,a1,false,false,by have:=tB hz;omega,ha1,aq (b:=aZ.m) h0 ⟨l.length+1, ?_⟩⟩;rw[hz] at h2;simp only[uC,zM,dz] at hr ⊢;simp (maxSteps:=9^9) [bB,aZ.m,aZ.b,ar,aa,setAt,ak,hr,h2,hg,ha1]
  |false=>
   refine⟨[],a1,false,true,by simp,ha1,aq (b:=aZ.m) h0 ⟨l.length+1, ?_⟩⟩;rw[hz] at h2;simp only[uC,zM,dz] at hr ⊢;simp (maxSteps:=9^9) [bB,aZ.m,aZ.b,ar,aa,setAt,ak,hr,h2,hg,ha1]
theorem sQ.aE(h:bo.k M)(l:List UInt8)(hl:l.length≤1048576)(a:Nat)(ha:a≤l.length):
  ∃(t:Token) (a':Nat) (m b:Bool),t.text.length≤60∧a'≤l.length∧run M 303 [.c (.ptr 0 0 0 0)] [dz l a false false]=some (.a (aJ t),[dz l a' m b]):=by
 obtain⟨h0,kn,kq,kl,ka⟩:=h;by_cases c1:a<l.length
 ·have h1:=jT kn l hl a c1;by_cases c2:(l[a].toNat:Int)=34
  ·obtain⟨s,a',m,b,hs,ha',h2⟩:=rD.aE kq l hl a c1;refine⟨⟨2,s⟩,a',m,b,hs,ha',aq (b:=bo.m) h0 ⟨0, ?_⟩⟩;rw[c2] at h1;simp only[dz,aJ] at h1 h2 ⊢;simp (maxSteps:=9^9) [bB,bo.m,bo.b,ar,aa,setAt,ak,h1,h2]
  ·by_cases c3:(l[a].toNat:Int)=123
   ·obtain⟨s,a',m,b,hs,ha',h2⟩:=qq.aE kl l hl a c1;refine⟨⟨2,s⟩,a',m,b,hs,ha',aq (b:=bo.m) h0 ⟨0, ?_⟩⟩;rw[c3] at h1;simp only[dz,aJ] at h1 h2 ⊢;simp (maxSteps:=9^9) [bB,bo.m,bo.b,ar,aa,setAt,ak,h1,h2]
   ·obtain⟨s,a',m,b,hs,ha',h2⟩:=uW.aE ka l hl a ha;refine⟨⟨1,s⟩,a',m,b,hs,ha',aq (b:=bo.m) h0 ⟨0, ?_⟩⟩;simp only[dz,aJ] at h1 h2 ⊢;generalize (l[a].toNat:Int)=z at*;simp (maxSteps:=9^9) [bB,bo.m,bo.b,ar,aa,setAt,ak,h1,h2,c2,c3]
 ·have h1:=iK kn l hl a (by omega);refine⟨⟨0,[]⟩,a,true,false,by simp,ha,aq (b:=bo.m) h0 ⟨0, ?_⟩⟩;simp only[dz,aJ] at h1 ⊢;simp (maxSteps:=9^9) [bB,bo.m,bo.b,ar,aa,setAt,ak,h1]
structure CV where
 i:Nat
 e:List (Nat×V)
 n:Nat
def vw(l:List UInt8)(s:CV):St:={t:=(0,.c (S l))::(3,.c (I s.i))::s.e,o:=[],n:=s.n}
def CW(l:List UInt8)(r:Out×St):Prop:=(∃q n,q.length≤l.length∧r=(.ret,{t:=[(2,.c (S q))],o:=[],n:=n}))∨(∃i n,r=(.exit 0,{t:=[(0,.c (S l)),(3,.c (I i)),(8,.c (.bool false))],o:=[],n:=n}))
theorem zC(k:Nat)(l:List UInt8)(hl:l.length≤1048576)(s:CV)(hs:s.i≤l.length):
  (∃s',b9 (run M) k bS.l0 (vw l s)=some (.normal,vw l s')∧s'.i≤l.length∧l.length-s'.i<l.length-s.i)∨(∃r,b9 (run M) k bS.l0 (vw l s)=some r∧r.1≠.normal∧CW l r):=by
 obtain⟨i,e,n⟩:=s;simp only at hs;have e1:IntKind.i64.wrap ((i:Int)+1)=((i+1:Nat):Int):=by rw[Int.natCast_add];exact wrap_i64 (by omega) (by omega)
 have hz1:(0:Int)≤((i+1:Nat):Int):=by omega
 have hz2:(((i+1:Nat):Int)).toNat=i+1:=by omega
 by_cases c1:i+1<l.length
 ·have c2:(((i+1:Nat):Int))<l.length:=by omega
  have c3:i<l.length:=by omega
  have e2:IntKind.i64.wrap ((i:Int)+2)=((i+2:Nat):Int):=by rw[Int.natCast_add];exact wrap_i64 (by omega) (by omega)
  have hy1:(0:Int)≤((i+2:Nat):Int):=by omega
  have hy2:(((i+2:Nat):Int)).toNat=i+2:=by omega
  have c4:i+2≤l.length:=by omega
  by_cases d1:(l[i].toNat:Int)=13∧(l[i+1].toNat:Int)=10
  ·obtain⟨d1,d2⟩:=d1;right;have hh:∃n',b9 (run M) k bS.l0 (vw l ⟨i,e,n⟩)=some (.ret,{t:=[(2,.c (S ((l.take l.length).drop (i+2))))],o:=[],n:=n'}):=by
    simp only[vw];generalize ((i+1:Nat):Int)=x1 at*;generalize ((i+2:Nat):Int)=x2 at*;simp (maxSteps:=9^9) [bS.l0,ar,aa,setAt,ak,e1,e2,hz1,hz2,hy1,hy2,c1,c2,c3,c4,d1,d2]
   obtain⟨n',hh⟩:=hh;exact⟨_,hh,by simp,.inl ⟨_,n',by simp,rfl⟩⟩
  ·left;have hh:∃e' n',b9 (run M) k bS.l0 (vw l ⟨i,e,n⟩)=some (.normal,vw l ⟨i+1,e',n'⟩):=by
    simp only[vw];generalize ((i+1:Nat):Int)=x1 at*;generalize ((i+2:Nat):Int)=x2 at*;generalize hp:(l[i].toNat:Int)=p at*;generalize hq:(l[i+1].toNat:Int)=q at*;by_cases d2:p=13
    ·have d3:¬q=10:=fun z=>d1 ⟨d2,z⟩
     subst d2;exact⟨[],by simp (maxSteps:=9^9) [bS.l0,ar,aa,setAt,ak,e1,e2,hz1,hz2,hy1,hy2,c1,c2,c3,c4,d3,hp,hq]⟩
    ·exact⟨[],by simp (maxSteps:=9^9) [bS.l0,ar,aa,setAt,ak,e1,e2,hz1,hz2,hy1,hy2,c1,c2,c3,c4,d2,hp,hq]⟩
   obtain⟨e',n',hh⟩:=hh;exact⟨_,hh,by simp only;omega,by simp only;omega⟩
 ·right;have c2:¬(((i+1:Nat):Int))<l.length:=by omega
  have hh:∃n',b9 (run M) k bS.l0 (vw l ⟨i,e,n⟩)=some (.exit 0,{t:=[(0,.c (S l)),(3,.c (I i)),(8,.c (.bool false))],o:=[],n:=n'}):=by
   simp only[vw];generalize ((i+1:Nat):Int)=x1 at*;simp (maxSteps:=9^9) [bS.l0,ar,aa,setAt,ak,e1,c2]
  obtain⟨n',hh⟩:=hh;exact⟨_,hh,by simp,.inr ⟨i,n',rfl⟩⟩
theorem bS.aE(h:bS.k M)(l:List UInt8)(hl:l.length≤1048576):∃q:List UInt8,q.length≤l.length∧run M 306 [.c (S l)] []=some (.c (S q),[]):=by
 obtain⟨r,hr,hP⟩:=fc (f:=b9 (run M) (l.length+1) bS.l0) (vw l) (fun s=>s.i≤l.length) (fun s=>l.length-s.i) (CW l) (fun s hs=>zC _ l hl s hs) (l.length+1) ⟨0,[],2000032⟩ (by simp) (by simp);have e0:((0:Nat):Int)=0:=rfl;rcases hP with⟨q,n',hq,rfl⟩|⟨i,n',rfl⟩
 ·refine⟨q,hq,aq (b:=bS.m) h ⟨l.length+1, ?_⟩⟩;simp only[vw,e0] at hr;simp (maxSteps:=9^9) [bB,bS.m,bS.b,ar,aa,setAt,ak,hr]
 ·refine⟨[],by simp,aq (b:=bS.m) h ⟨l.length+1, ?_⟩⟩;simp only[vw,e0] at hr;simp (maxSteps:=9^9) [bB,bS.m,bS.b,ar,aa,setAt,ak,hr]
structure Bt where
 ts:List Token
 a:Nat
 m:Bool
 b:Bool
 e:List (Nat×V)
 v:Nat
 n:Nat
abbrev yx(v11:Nat):Nat×Ob:=(11,⟨v11,2,true,false,[]⟩)
def wh(l:List UInt8)(x:Nat×Nat)(s:Bt):List (Nat×Ob):=[yx x.1,(14,⟨x.2,4,true,true,[[S l,I s.a,.bool s.m,.bool s.b]]⟩),(15,⟨s.v,2,true,false,s.ts.map aJ⟩)]
def wg(l:List UInt8)(x:Nat×Nat)(s:Bt):List (Nat×V):=(0,.c (S l))::(5,.c (.row 11 x.1 0 0))::(6,.c (.ptr 14 x.2 0 0))::(7,.c (.row 15 s.v 0 s.ts.length))::s.e
def pw(l:List UInt8)(x:Nat×Nat)(s:Bt):St:={t:=wg l x s,o:=wh l x s,n:=s.n}
structure B2 (l:List UInt8) (s:Bt):Prop where
 a:s.a≤l.length
 n:s.ts.length≤9
 g:∀t∈s.ts,t.text.length≤60
def CH(l:List UInt8)(x:Nat×Nat)(r:Out×St):Prop:=∃(s:Bt) (p:List (Nat×Ob)),(p=[]∨∃ob,p=[(8,ob)])∧B2 l s∧r=(.exit 0,{t:=wg l x s,o:=p++wh l x s,n:=s.n})
theorem yZ(kt:bo.k M)(kn:aV.k M)(km:bq.k M)(k:Nat)(l:List UInt8)(hl:l.length≤1048576)(x:Nat×Nat)(s:Bt)(hs:B2 l s∧s.ts.length≤8∧s.m=false∧s.b=false):
  (∃s',b9 (run M) k aG.l0 (pw l x s)=some (.normal,pw l x s')∧(B2 l s'∧s'.ts.length≤8∧s'.m=false∧s'.b=false)∧9-s'.ts.length<9-s.ts.length)∨
   (∃r,b9 (run M) k aG.l0 (pw l x s)=some r∧r.1≠.normal∧CH l x r):=by
 obtain⟨v11,v14⟩:=x;obtain⟨ts,a,m,b,e,v,n⟩:=s;obtain⟨⟨ha,hn,hg⟩,hn8,hm,hb⟩:=hs;simp only at ha hn hg hn8 hm hb;subst hm hb;obtain⟨t,a1,m1,b1,ht,ha1,h1⟩:=sQ.aE kt l hl a ha;have er:(ts.map aJ).length=ts.length:=by simp
 have et:(ts.map aJ).take ts.length=ts.map aJ:=aa (by simp);have hc:ts.length+1≤4294967296:=by omega
 have hg2:∀u∈ts++[t],u.text.length≤60:=by
  intro u hu;rcases List.mem_append.1 hu with q|q
  ·exact hg u q
  ·rw[List.mem_singleton.1 q];exact ht
 have ez:((ts.length+1:Nat):Int)=(ts.length:Int)+1:=by omega
 by_cases c1:b1=true∨m1=true
 ·right;have hh:∃v8 n',b9 (run M) k aG.l0 (pw l (v11,v14) ⟨ts,a,false,false,e,v,n⟩)=some (.exit 0,{t:=wg l (v11,v14) ⟨ts,a1,m1,b1,[(8,.c (.ptr 8 v8 0 0)),(27,.c (.bool true))],v,n'⟩,o:=[(8,⟨v8,2,true,true,[aJ t]⟩)]++wh l (v11,v14) ⟨ts,a1,m1,b1,[(8,.c (.ptr 8 v8 0 0)),(27,.c (.bool true))],v,n'⟩,n:=n'}):=by
   simp only[pw,wg,wh,yx,dz,aJ,List.cons_append,eu] at h1 er et ⊢;generalize (ts.map fun x:Token=>[I x.kind,S x.text])=rt at*;cases b1 with
   |true=>simp (maxSteps:=9^9) [aG.l0,ar,aa,setAt,ak,h1]
   |false=>
    have c2:m1=true:=by simpa using c1
    subst c2;simp (maxSteps:=9^9) [aG.l0,ar,aa,setAt,ak,h1]
  obtain⟨v8,n',hh⟩:=hh;exact⟨_,hh,by simp,_,_,.inr ⟨_,rfl⟩,⟨ha1,hn,hg⟩,rfl⟩
 ·have c2:b1=false:=by cases b1 with|true=>exact(c1 (.inl rfl)).elim|false=>rfl
  have c3:m1=false:=by cases m1 with|true=>exact(c1 (.inr rfl)).elim|false=>rfl
  subst c2 c3;have out:∀(a':Nat) (m' b':Bool) (e':List (Nat×V)),a'≤l.length→(∃v' n',b9 (run M) k aG.l0 (pw l (v11,v14) ⟨ts,a,false,false,e,v,n⟩)=some (.exit 0,pw l (v11,v14) ⟨ts++[t],a',m',b',e',v',n'⟩))→
    (∃s',b9 (run M) k aG.l0 (pw l (v11,v14) ⟨ts,a,false,false,e,v,n⟩)=some (.normal,pw l (v11,v14) s')∧(B2 l s'∧s'.ts.length≤8∧s'.m=false∧s'.b=false)∧9-s'.ts.length<9-ts.length)∨
     (∃r,b9 (run M) k aG.l0 (pw l (v11,v14) ⟨ts,a,false,false,e,v,n⟩)=some r∧r.1≠.normal∧CH l (v11,v14) r):=by
   intro a' m' b' e' ha' ⟨v',n',hh⟩;exact .inr ⟨_,hh,by simp,⟨ts++[t],a',m',b',e',v',n'⟩,[],.inl rfl,⟨ha',by simp;omega,hg2⟩,rfl⟩
  by_cases c4:8<ts.length+1
  ·refine out a1 false true [] ha1 ?_;have c5:(8:Int)<ts.length+1:=by omega
   simp only[pw,wg,wh,yx,dz,aJ,dG,aL,bI,aN,ae,ai] at h1 er et ⊢;generalize (ts.map fun x:Token=>[I x.kind,S x.text])=rt at*;simp (maxSteps:=9^9) [aG.l0,ar,aa,setAt,ak,h1,er,et,hc,c5]
  ·have c5:¬(8:Int)<ts.length+1:=by omega
   by_cases d1:a1<l.length
   ·have h2:=jT kn l hl a1 d1;have e1:IntKind.i64.wrap ((a1:Int)+1)=(a1:Int)+1:=wrap_i64 (by omega) (by omega);by_cases d2:(l[a1].toNat:Int)=13
    ·obtain⟨a3,m3,b3,ha3,h3⟩:=kX.aE km l hl (a1+1) d1 false false 10;refine out a3 m3 b3 [] ha3 ?_;rw[d2] at h2;have hb2:((a1+1:Nat):Int)=(a1:Int)+1:=by omega
     simp only[pw,wg,wh,yx,dz,aJ,dG,aL,bI,aN,ae,ai,hb2,cq] at h1 h2 h3 er et ⊢;generalize (ts.map fun x:Token=>[I x.kind,S x.text])=rt at*;simp (maxSteps:=9^9) [aG.l0,ar,aa,setAt,ak,h1,h2,h3,er,et,hc,c5,e1]
    ·obtain⟨a3,m3,b3,ha3,h3⟩:=kX.aE km l hl a1 ha1 false false 32;by_cases d3:b3=true∨m3=true
     ·refine out a3 m3 b3 [(68,.c (.bool true))] ha3 ?_;simp only[pw,wg,wh,yx,dz,aJ,dG,aL,bI,aN,ae,ai,cq] at h1 h2 h3 er et ⊢;generalize (ts.map fun x:Token=>[I x.kind,S x.text])=rt at*;generalize (l[a1].toNat:Int)=z at*;cases b3 with
      |true=>simp (maxSteps:=9^9) [aG.l0,ar,aa,setAt,ak,h1,h2,h3,er,et,hc,c5,d2]
      |false=>
       have d4:m3=true:=by simpa using d3
       subst d4;simp (maxSteps:=9^9) [aG.l0,ar,aa,setAt,ak,h1,h2,h3,er,et,hc,c5,d2]
     ·have d4:b3=false:=by cases b3 with|true=>exact(d3 (.inl rfl)).elim|false=>rfl
      have d5:m3=false:=by cases m3 with|true=>exact(d3 (.inr rfl)).elim|false=>rfl
      subst d4 d5;left;have hh:∃v' n',b9 (run M) k aG.l0 (pw l (v11,v14) ⟨ts,a,false,false,e,v,n⟩)=some (.normal,pw l (v11,v14) ⟨ts++[t],a3,false,false,[(68,.c (.bool false))],v',n'⟩):=by
       simp only[pw,wg,wh,yx,dz,aJ,dG,aL,bI,aN,ae,ai,cq] at h1 h2 h3 er et ⊢;generalize (ts.map fun x:Token=>[I x.kind,S x.text])=rt at*;generalize (l[a1].toNat:Int)=z at*;simp (maxSteps:=9^9) [aG.l0,ar,aa,setAt,ak,h1,h2,h3,er,et,hc,c5,d2]
      obtain⟨v',n',hh⟩:=hh;exact⟨_,hh,⟨⟨ha3,by simp;omega,hg2⟩,by simp;omega,rfl,rfl⟩,by simp;omega⟩
   ·have h2:=iK kn l hl a1 (by omega);refine out a1 true false [(9,.c (U8 0)),(44,.c (.bool true))] ha1 ?_;simp only[pw,wg,wh,yx,dz,aJ,dG,aL,bI,aN,ae,ai,cq] at h1 h2 er et ⊢;generalize (ts.map fun x:Token=>[I x.kind,S x.text])=rt at*;simp (maxSteps:=9^9) [aG.l0,ar,aa,setAt,ak,h1,h2,er,et,hc,c5]
theorem aG.aE(h:aG.k M)(l:List UInt8)(hl:l.length≤1048576):
  ∃(ts:List Token) (q:List UInt8) (c:Int),ts.length≤9∧(∀t∈ts,t.text.length≤60)∧run M 286 [.c (S l)] []=some (.hC [.c (.sl true 2 (ts.map aJ)),.c (S q),.c (I c)],[]):=by
 obtain⟨h0,kt,kn,km,ke⟩:=h;obtain⟨r,hr,s,p,hp,hI,rfl⟩:=fc (f:=b9 (run M) 10 aG.l0) (pw l (2000048,2000112)) (fun s=>B2 l s∧s.ts.length≤8∧s.m=false∧s.b=false) (fun s=>9-s.ts.length) (CH l (2000048,2000112))
  (fun s hs=>yZ kt kn km _ l hl _ s hs) 10 ⟨[],0,false,false,[],2000144,2000176⟩ ⟨⟨by simp,by simp,by simp⟩,by simp,rfl,rfl⟩ (by simp)
 obtain⟨ts,a,m,b,e,v,n⟩:=s;obtain⟨ha,hn,hg⟩:=hI;simp only at ha hn hg;obtain⟨q,hq,h2⟩:=bS.aE ke l hl;have er:(ts.map aJ).length=ts.length:=by simp
 have et:(ts.map aJ).take ts.length=ts.map aJ:=aa (by simp);have e0:((0:Nat):Int)=0:=rfl;by_cases c1:m=true∧(l.length:Int)≤200
 ·refine⟨[],l,1,by simp,by simp,aq (b:=aG.m) h0 ⟨10, ?_⟩⟩;obtain⟨c1,c2⟩:=c1;subst c1;simp only[pw,wg,wh,yx,aJ,e0,bI,ai] at hr er et ⊢;generalize (ts.map fun x:Token=>[I x.kind,S x.text])=rt at*;rcases hp with rfl|⟨ob,rfl⟩
  ·simp (maxSteps:=9^9) [bB,aG.m,aG.b,ar,aa,setAt,ak,hr,c2,er,et]
  ·simp (maxSteps:=9^9) [bB,aG.m,aG.b,ar,aa,setAt,ak,hr,c2,er,et]
 ·by_cases c2:b=true∨m=true∨(200:Int)<a
  ·refine⟨[],q,2,by simp,by simp,aq (b:=aG.m) h0 ⟨10, ?_⟩⟩;simp only[pw,wg,wh,yx,aJ,e0,bI,ai] at hr er et ⊢;generalize (ts.map fun x:Token=>[I x.kind,S x.text])=rt at*;have key:∀p1:(m=true∧¬(l.length:Int)≤200)∨m=false,∀p2:b=true∨(b=false∧m=true)∨(b=false∧m=false∧(200:Int)<a),bB (run M) 10 aG.m [.c (S l)] []=some (.hC [.c (.sl true 2 []),.c (S q),.c (I 2)],[]):=by
    intro p1 p2;rcases hp with rfl|⟨ob,rfl⟩<;>rcases p1 with⟨rfl,p1⟩|rfl<;>rcases p2 with rfl|⟨rfl,p2⟩|⟨rfl,p2,p3⟩<;>first
     |(cases p2;done)
     |simp (maxSteps:=9^9) [bB,aG.m,aG.b,ar,aa,setAt,ak,hr,p1,p3,h2,er,et]
     |simp (maxSteps:=9^9) [bB,aG.m,aG.b,ar,aa,setAt,ak,hr,p3,h2,er,et]
     |simp (maxSteps:=9^9) [bB,aG.m,aG.b,ar,aa,setAt,ak,hr,p1,h2,er,et]
     |simp (maxSteps:=9^9) [bB,aG.m,aG.b,ar,aa,setAt,ak,hr,h2,er,et]
   refine key ?_ ?_
   ·cases m with
    |true=>exact .inl ⟨rfl,fun z=>c1 ⟨rfl,z⟩⟩
    |false=>exact .inr rfl
   ·cases b with
    |true=>exact .inl rfl
    |false=>
     cases m with
     |true=>exact .inr (.inl ⟨rfl,rfl⟩)
     |false=>
      rcases c2 with z|z|z
      ·cases z
      ·cases z
      ·exact .inr (.inr ⟨rfl,rfl,z⟩)
  ·have d1:b=false:=by cases b with|true=>exact(c2 (.inl rfl)).elim|false=>rfl
   have d2:m=false:=by cases m with|true=>exact(c2 (.inr (.inl rfl))).elim|false=>rfl
   have d3:¬(200:Int)<a:=fun z=>c2 (.inr (.inr z))
   subst d1 d2;refine⟨ts,(l.take l.length).drop a,0,hn,hg,aq (b:=aG.m) h0 ⟨10, ?_⟩⟩;simp only[pw,wg,wh,yx,aJ,e0,bI,ai] at hr er et ⊢;generalize (ts.map fun x:Token=>[I x.kind,S x.text])=rt at*;rcases hp with rfl|⟨ob,rfl⟩
   ·simp (maxSteps:=9^9) [bB,aG.m,aG.b,ar,aa,setAt,ak,hr,d3,er,et,ha]
   ·simp (maxSteps:=9^9) [bB,aG.m,aG.b,ar,aa,setAt,ak,hr,d3,er,et,ha]
def qG:List (List UInt8):=[[97,32,76,79,71,73,78,32,97,110,110,32,120],[98,32,83,69,76,69,67,84,32,105,110,98,111,120],[98,32,83,69,76,69,67,84,32,119,111,114,107],[99,32,67,82,69,65,84,69,32,105,110,98,111,120],[99,32,67,82,69,65,84,69,32,110,101,119],[100,32,65,80,80,69,78,68,32,105,110,98,111,120,32,34,104,105,32,116,104,101,114,101,34],[100,32,65,80,80,69,78,68,32,105,110,98,111,120,32,123,51,125,13,10,97,98,99],[101,32,70,69,84,67,72,32,49,58,42],[101,32,70,69,84,67,72,32,50,44,49],[102,32,83,84,79,82,69,32,49,32,52],[102,32,83,84,79,82,69,32,49,58,42,32,49],[103,32,69,88,80,85,78,71,69],[104,32,78,79,79,80],[105,32,76,73,83,84],[106,32,83,84,65,84,85,83,32,105,110,98,111,120],[107,32,82,69,78,65,77,69,32,105,110,98,111,120,32,111,108,100],[108,32,68,69,76,69,84,69,32,119,111,114,107],[109,32,76,79,71,79,85,84],[110,32,87,72,65,84],[111,32,70,69,84,67,72,32,120],[112,32,83,84,79,82,69,32,49,32,57],[113],[34,114,34,32,78,79,79,80]]
theorem rP:∀t∈qG,t.length≤40:=by decide
theorem dC.aE(h:dC.k M){R:List (List T)}(hR:Bytes R)(i:Nat)(q:Int)(hi:i≤R.length):
  ∃(t:List UInt8) (i':Nat) (q':Int),t.length≤40∧i'≤R.length∧run M 285 [.c (.ptr 0 0 0 0)] [ei R i q]=some (.c (S t),[ei R i' q']):=by
 obtain⟨h0,kp⟩:=h;obtain⟨t,i1,q1,ht,hi1,h1⟩:=cG.aE kp hR i q hi qG (by decide) (by decide);refine⟨t,i1,q1,rP t ht,hi1,aq (b:=dC.m) h0 ⟨0, ?_⟩⟩;simp only[ei,qG,aL,bI] at h1 ⊢;simp (maxSteps:=9^9) [bB,dC.m,dC.b,ar,aa,setAt,ak,h1]
structure Bs where
 x:a5
 i:Nat
 ic:Nat
 q:Int
 n:Nat
def pT:List UInt8:=[97,32,76,79,71,73,78,32,97,110,110,32,120,13,10]
def wc(s:Bs):List (Nat×V):=[(0,.c (.ptr 0 0 0 0)),(3,.c (.ptr 3 2000000 0 0)),(4,.c (.ptr 4 2000016 0 0)),(5,.c (.ptr 5 2000048 0 0)),(6,.c (.row 18 2000160 0 2)),(7,.c (I s.i))]
def we(R:List (List T))(st:aP)(u:List UInt8)(s:Bs):List (Nat×Ob):=[ei R s.ic s.q,(3,⟨2000000,4,true,true,[ao st]⟩),(4,⟨2000016,6,true,true,[lA]⟩),(5,⟨2000048,6,true,true,[cN s.x]⟩),(18,⟨2000160,1,true,false,[[S pT],[S u]]⟩)]
def lD(R:List (List T))(st:aP)(u:List UInt8)(s:Bs):St:={t:=wc s,o:=we R st u s,n:=s.n}
def BI(R:List (List T))(st:aP)(u:List UInt8)(s:Bs):St:={t:=wc s++[(22,.c (.bool false))],o:=we R st u s,n:=s.n}
structure B0 (R:List (List T)) (st:aP) (s:Bs):Prop where
 x:fv st s.x
 i:s.i≤3
 c:s.ic≤R.length
structure C2 (M:Nat→Option Body):Prop where
 below:a4.k M
 once:dc.k M
 line:dC.k M
 rt:aG.k M
 an:av.k M
theorem yW(K:C2 M){R:List (List T)}(hR:Bytes R)(k:Nat)(st:aP)(hst:aW st=true)(u:List UInt8)(hu:u.length≤100)(s:Bs)(hs:B0 R st s):
  (∃s',b9 (run M) k aR.l0 (lD R st u s)=some (.normal,lD R st u s')∧B0 R st s'∧4-s'.i<4-s.i)∨
   (∃r,b9 (run M) k aR.l0 (lD R st u s)=some r∧r.1≠.normal∧∃s',r=(.exit 0,BI R st u s')∧B0 R st s'):=by
 obtain⟨x,i,ic,q,n⟩:=s;obtain⟨hx,hi,hic⟩:=hs;simp only at hx hi hic;obtain⟨z,i1,q1,hz,hi1,g1⟩:=a4.aE K.below hR ic q hic 4 (by omega) (by omega);simp only[cq,ei] at g1;by_cases c0:i<z;rotate_left
 ·right;have c1:¬(i:Int)<z:=by omega
  have hh:∃n',b9 (run M) k aR.l0 (lD R st u ⟨x,i,ic,q,n⟩)=some (.exit 0,BI R st u ⟨x,i,i1,q1,n'⟩):=by
   simp only[lD,BI,wc,we,cN,ints,ao,boxes,lA];generalize au x.view=rv at*;generalize st.boxes.map ah=r1 at*;generalize au st.gone=r2 at*;simp (maxSteps:=9^9) [aR.l0,ar,aa,setAt,ak,g1,c1]
  obtain⟨n',hh⟩:=hh;exact⟨_,hh,by simp,_,rfl,⟨hx,hi,hi1⟩⟩
 left;have c1:(i:Int)<z:=by omega
 have e5:=dS (i:=i) (by omega);obtain⟨t,i2,q2,ht,hi2,g2⟩:=dC.aE K.line hR i1 q1 hi1;obtain⟨tl,s1,l1⟩:=bV (a:=t) [13,10] (by simp only[ae,ai];omega);simp only[ae,ai] at l1;obtain⟨b,i3,q3,hi3,g3⟩:=dc.aE K.once hR i2 q2 hi2 6 (by omega) (by omega);simp only[cq,ei] at g2 g3;by_cases c2:i<2
 ·have c3:(i:Int)<2:=by omega
  cases b with
  |true=>
   obtain⟨ts,rest,c,hts,htx,g4⟩:=aG.aE K.rt tl (by omega);by_cases c4:c=0
   ·subst c4;obtain⟨x',ta,no,f,rows,hx',g5⟩:=av.aE K.an st hst x hx 950 ts hts htx;have hh:∃n',b9 (run M) k aR.l0 (lD R st u ⟨x,i,ic,q,n⟩)=some (.normal,lD R st u ⟨x',i+1,i3,q3,n'⟩):=by
     simp only[lD,wc,we,cN,ints,ao,boxes,lA,ev] at g4 g5 ⊢;generalize au x.view=rv at*;generalize au x'.view=rw at*;generalize st.boxes.map ah=r1 at*;generalize au st.gone=r2 at*;generalize ts.map aJ=rt at*;simp (maxSteps:=9^9) [aR.l0,ar,aa,setAt,ak,g1,g2,g4,g5,c1,e5,s1,g3,c3]
    obtain⟨n',hh⟩:=hh;exact⟨_,hh,⟨hx',by simp only;omega,hi3⟩,by simp only;omega⟩
   ·have hh:∃n',b9 (run M) k aR.l0 (lD R st u ⟨x,i,ic,q,n⟩)=some (.normal,lD R st u ⟨x,i+1,i3,q3,n'⟩):=by
     simp only[lD,wc,we,cN,ints,ao,boxes,lA] at g4 ⊢;generalize au x.view=rv at*;generalize st.boxes.map ah=r1 at*;generalize au st.gone=r2 at*;generalize ts.map aJ=rt at*;simp (maxSteps:=9^9) [aR.l0,ar,aa,setAt,ak,g1,g2,g4,c1,c4,e5,s1,g3,c3]
    obtain⟨n',hh⟩:=hh;exact⟨_,hh,⟨hx,by simp only;omega,hi3⟩,by simp only;omega⟩
  |false=>
   have hi01:i=0∨i=1:=by omega
   rcases hi01 with hi0|hi0
   ·have hget:∀hh,([[S pT],[S u]]:List (List T))[i]'hh=[S pT]:=by subst hi0;intro hh;rfl
    obtain⟨ts,rest,c,hts,htx,g4⟩:=aG.aE K.rt pT (by decide);by_cases c4:c=0
    ·subst c4;obtain⟨x',ta,no,f,rows,hx',g5⟩:=av.aE K.an st hst x hx 950 ts hts htx;have hh:∃n',b9 (run M) k aR.l0 (lD R st u ⟨x,i,ic,q,n⟩)=some (.normal,lD R st u ⟨x',i+1,i3,q3,n'⟩):=by
      simp only[lD,wc,we,cN,ints,ao,boxes,lA,ev] at g4 g5 ⊢;generalize au x.view=rv at*;generalize au x'.view=rw at*;generalize st.boxes.map ah=r1 at*;generalize au st.gone=r2 at*;generalize ts.map aJ=rt at*;simp (maxSteps:=9^9) [aR.l0,ar,aa,setAt,ak,g1,g2,g4,g5,c1,e5,s1,g3,c3,c2,hget]
     obtain⟨n',hh⟩:=hh;exact⟨_,hh,⟨hx',by simp only;omega,hi3⟩,by simp only;omega⟩
    ·have hh:∃n',b9 (run M) k aR.l0 (lD R st u ⟨x,i,ic,q,n⟩)=some (.normal,lD R st u ⟨x,i+1,i3,q3,n'⟩):=by
      simp only[lD,wc,we,cN,ints,ao,boxes,lA] at g4 ⊢;generalize au x.view=rv at*;generalize st.boxes.map ah=r1 at*;generalize au st.gone=r2 at*;generalize ts.map aJ=rt at*;simp (maxSteps:=9^9) [aR.l0,ar,aa,setAt,ak,g1,g2,g4,c1,c4,e5,s1,g3,c3,c2,hget]
     obtain⟨n',hh⟩:=hh;exact⟨_,hh,⟨hx,by simp only;omega,hi3⟩,by simp only;omega⟩
   ·have hget:∀hh,([[S pT],[S u]]:List (List T))[i]'hh=[S u]:=by subst hi0;intro hh;rfl
    obtain⟨ts,rest,c,hts,htx,g4⟩:=aG.aE K.rt u (by omega);by_cases c4:c=0
    ·subst c4;obtain⟨x',ta,no,f,rows,hx',g5⟩:=av.aE K.an st hst x hx 950 ts hts htx;have hh:∃n',b9 (run M) k aR.l0 (lD R st u ⟨x,i,ic,q,n⟩)=some (.normal,lD R st u ⟨x',i+1,i3,q3,n'⟩):=by
      simp only[lD,wc,we,cN,ints,ao,boxes,lA,ev] at g4 g5 ⊢;generalize au x.view=rv at*;generalize au x'.view=rw at*;generalize st.boxes.map ah=r1 at*;generalize au st.gone=r2 at*;generalize ts.map aJ=rt at*;simp (maxSteps:=9^9) [aR.l0,ar,aa,setAt,ak,g1,g2,g4,g5,c1,e5,s1,g3,c3,c2,hget]
     obtain⟨n',hh⟩:=hh;exact⟨_,hh,⟨hx',by simp only;omega,hi3⟩,by simp only;omega⟩
    ·have hh:∃n',b9 (run M) k aR.l0 (lD R st u ⟨x,i,ic,q,n⟩)=some (.normal,lD R st u ⟨x,i+1,i3,q3,n'⟩):=by
      simp only[lD,wc,we,cN,ints,ao,boxes,lA] at g4 ⊢;generalize au x.view=rv at*;generalize st.boxes.map ah=r1 at*;generalize au st.gone=r2 at*;generalize ts.map aJ=rt at*;simp (maxSteps:=9^9) [aR.l0,ar,aa,setAt,ak,g1,g2,g4,c1,c4,e5,s1,g3,c3,c2,hget]
     obtain⟨n',hh⟩:=hh;exact⟨_,hh,⟨hx,by simp only;omega,hi3⟩,by simp only;omega⟩
 ·have c3:¬(i:Int)<2:=by omega
  obtain⟨ts,rest,c,hts,htx,g4⟩:=aG.aE K.rt tl (by omega);by_cases c4:c=0
  ·subst c4;obtain⟨x',ta,no,f,rows,hx',g5⟩:=av.aE K.an st hst x hx 950 ts hts htx;have hh:∃n',b9 (run M) k aR.l0 (lD R st u ⟨x,i,ic,q,n⟩)=some (.normal,lD R st u ⟨x',i+1,i2,q2,n'⟩):=by
    simp only[lD,wc,we,cN,ints,ao,boxes,lA,ev] at g4 g5 ⊢;generalize au x.view=rv at*;generalize au x'.view=rw at*;generalize st.boxes.map ah=r1 at*;generalize au st.gone=r2 at*;generalize ts.map aJ=rt at*;simp (maxSteps:=9^9) [aR.l0,ar,aa,setAt,ak,g1,g2,g4,g5,c1,e5,s1,c3]
   obtain⟨n',hh⟩:=hh;exact⟨_,hh,⟨hx',by simp only;omega,hi2⟩,by simp only;omega⟩
  ·have hh:∃n',b9 (run M) k aR.l0 (lD R st u ⟨x,i,ic,q,n⟩)=some (.normal,lD R st u ⟨x,i+1,i2,q2,n'⟩):=by
    simp only[lD,wc,we,cN,ints,ao,boxes,lA] at g4 ⊢;generalize au x.view=rv at*;generalize st.boxes.map ah=r1 at*;generalize au st.gone=r2 at*;generalize ts.map aJ=rt at*;simp (maxSteps:=9^9) [aR.l0,ar,aa,setAt,ak,g1,g2,g4,c1,c4,e5,s1,c3]
   obtain⟨n',hh⟩:=hh;exact⟨_,hh,⟨hx,by simp only;omega,hi2⟩,by simp only;omega⟩
theorem oo(s:aP):fv s fo:=⟨rfl,rfl,.inl rfl⟩
theorem aR.aE(h:aR.k M){R:List (List T)}(hR:Bytes R)(i:Nat)(q:Int)(hi:i≤R.length)(s:aP)(hs:aW s=true):
  ∃(x:a5) (i':Nat) (q':Int),fv s x∧i'≤R.length∧run M 245 [.c (.ptr 0 0 0 0),.a (ao s)] [ei R i q]=some (.a (cN x),[ei R i' q']):=by
 obtain⟨h0,kb,ko,kp,kn,kl,kt,ka⟩:=h;have h1:=cZ.aE kn;obtain⟨t,i1,q1,ht,hi1,h2⟩:=cG.aE kp hR i q hi [[105,110,98,111,120],[119,111,114,107]] (by decide) (by decide);have htl:t.length≤5:=by
  simp only[List.mem_cons,List.not_mem_nil,or_false] at ht;rcases ht with rfl|rfl<;>simp
 obtain⟨u1,s1,l1⟩:=(⟨[98,32,83,69,76,69,67,84,32]++t,ak _ _ (by simp only[ae,ai];omega),by simp;omega⟩:∃c:List UInt8,eN .add ⟨[98,32,83,69,76,69,67,84,32].toArray⟩ (bs t)=some (S c)∧c.length=9+t.length);obtain⟨u,s2,l2⟩:=bV (a:=u1) [13,10] (by simp only[ae,ai];omega);simp only[ae,ai] at l2;obtain⟨r,hr,⟨⟨x,j,ic,qc,n⟩,rfl,hI⟩⟩:=fc (f:=b9 (run M) 5 aR.l0) (lD R s u) (B0 R s) (fun y=>4-y.i) (fun r=>∃s',r=(.exit 0,BI R s u s')∧B0 R s s')
  (fun y hy=>yW ⟨kb,ko,kl,kt,ka⟩ hR 5 s hs u (by omega) y hy) 5 ⟨fo,0,i1,q1,2000208⟩ ⟨oo s,by simp,hi1⟩ (by simp)
 refine⟨x,ic,qc,hI.x,hI.c,aq (b:=aR.m) h0 ⟨5, ?_⟩⟩;have e0:((0:Nat):Int)=0:=rfl;simp only[lD,BI,wc,we,e0,ei,aL,bI,cN,dw,ints,fo,fN,ao,boxes,lA,pT] at h1 h2 hr ⊢;generalize au x.view=rv at*;generalize s.boxes.map ah=r1 at*;generalize au s.gone=r2 at*;simp (maxSteps:=9^9) [bB,aR.m,aR.b,ar,aa,setAt,ak,h1,h2,hr,s1,s2]
structure B1 (x:a5):Prop where
 nd:x.view.Nodup
 len:x.view.length≤11
theorem bt.aE(h:bt.k M){R:List (List T)}(hR:Bytes R)(i:Nat)(q:Int)(hi:i≤R.length)(s:aP){m:Nat}(hU:Used m s):
  ∃(x:a5) (i':Nat) (q':Int),B1 x∧i'≤R.length∧run M 189 [.c (.ptr 0 0 0 0),.a (ao s)] [ei R i q]=some (.a (cN x),[ei R i' q']):=by
 obtain⟨h0,kb,kc,ks⟩:=h;have hs:=hU.ok;obtain⟨k,i1,q1,hk,hi1,h1⟩:=a4.aE kb hR i q hi 12 (by omega) (by omega);obtain⟨y,i2,q2,hy,hi2,h2⟩:=a4.aE kb hR i1 q1 hi1 60 (by omega) (by omega);obtain⟨x,i3,q3,hx,hi3,h3⟩:=aR.aE ks hR i2 q2 hi2 s hs;simp only[cq] at h1 h2;have vx:=hx.len hs;have h4:=bn.aE kc x (by omega);have hkn:∀g∈x.view,100≤g:=by
  intro g hg;rcases hx.v with e|⟨b,hb,e⟩
  ·rw[e] at hg;cases hg
  ·rw[e] at hg;unfold aI at hg;obtain⟨mm,hm,hg⟩:=List.mem_map.1 hg;exact((hU.box b hb).kn g (.inr (.inr ⟨mm,hm,hg⟩))).1
 have hnd:x.view.Nodup:=by
  rcases hx.v with e|⟨b,hb,e⟩
  ·rw[e];exact List.nodup_nil
  ·rw[e];exact oL hs b hb
 have vl:(au x.view).length=x.view.length:=by simp
 have vt:(au x.view).take x.view.length=au x.view:=aa (by omega);have vle:x.view.length+1≤4294967296:=by omega
 by_cases c0:k=0
 ·subst c0;have e0:((0:Nat):Int)=0:=rfl;refine⟨{x with view:=x.view++[(y:Int)]},i3,q3,⟨?_,by simp only[aN,ae,ai];omega⟩,hi3,aq (b:=bt.m) h0 ⟨0, ?_⟩⟩
  ·simp only;rw[List.nodup_append];refine⟨hnd,by simp,fun a ha b hb=> ?_⟩;rw[List.mem_singleton.1 hb];have:=hkn a ha;omega
  ·simp only[ei,cN,dw,ints,ao,boxes,jo,e0] at h1 h2 h3 h4 ⊢;generalize au x.view=rv at*;generalize s.boxes.map ah=r1 at*;generalize au s.gone=r2 at*;simp (maxSteps:=9^9) [bB,bt.m,bt.b,ar,aa,setAt,ak,h1,h2,h3,h4,vl,vt,vle]
 have d0:¬(k:Int)=0:=by omega
 by_cases c1:k=1
 ·subst c1;have e0:((1:Nat):Int)=1:=rfl;refine⟨{x with box:=(y:Int)},i3,q3,⟨hnd,by simp only;omega⟩,hi3,aq (b:=bt.m) h0 ⟨0, ?_⟩⟩
  simp only[ei,cN,dw,ints,ao,boxes,e0] at h1 h2 h3 h4 ⊢;generalize au x.view=rv at*;generalize s.boxes.map ah=r1 at*;generalize au s.gone=r2 at*;simp (maxSteps:=9^9) [bB,bt.m,bt.b,ar,aa,setAt,ak,h1,h2,h3,h4,vl,vt]
 have d1:¬(k:Int)=1:=by omega
 by_cases c2:k=2
 ·subst c2;have e0:((2:Nat):Int)=2:=rfl;refine⟨{x with over:=true},i3,q3,⟨hnd,by simp only;omega⟩,hi3,aq (b:=bt.m) h0 ⟨0, ?_⟩⟩
  simp only[ei,cN,dw,ints,ao,boxes,e0] at h1 h2 h3 h4 ⊢;generalize au x.view=rv at*;generalize s.boxes.map ah=r1 at*;generalize au s.gone=r2 at*;simp (maxSteps:=9^9) [bB,bt.m,bt.b,ar,aa,setAt,ak,h1,h2,h3,h4,vl,vt]
 have d2:¬(k:Int)=2:=by omega
 by_cases c3:k=3
 ·subst c3;have e0:((3:Nat):Int)=3:=rfl;refine⟨{x with on:= !x.on},i3,q3,⟨hnd,by simp only;omega⟩,hi3,aq (b:=bt.m) h0 ⟨0, ?_⟩⟩
  simp only[ei,cN,dw,ints,ao,boxes,e0] at h1 h2 h3 h4 ⊢;generalize au x.view=rv at*;generalize s.boxes.map ah=r1 at*;generalize au s.gone=r2 at*;simp (maxSteps:=9^9) [bB,bt.m,bt.b,ar,aa,setAt,ak,h1,h2,h3,h4,vl,vt]
 have d3:¬(k:Int)=3:=by omega
 by_cases c4:k=4
 ·subst c4;have e0:((4:Nat):Int)=4:=rfl
  match hv:x.view with
  |[]=>
   refine⟨x,i3,q3,⟨hnd,by omega⟩,hi3,aq (b:=bt.m) h0 ⟨0, ?_⟩⟩;simp only[ei,cN,dw,ints,ao,boxes,e0,hv,fN] at h1 h2 h3 h4 ⊢;generalize s.boxes.map ah=r1 at*;generalize au s.gone=r2 at*;simp (maxSteps:=9^9) [bB,bt.m,bt.b,ar,aa,setAt,ak,h1,h2,h3,h4]
  |[a]=>
   refine⟨{x with view:=[]},i3,q3,⟨List.nodup_nil,by simp⟩,hi3,aq (b:=bt.m) h0 ⟨0, ?_⟩⟩
   simp only[ei,cN,dw,ints,ao,boxes,e0,hv,au,aL,bI] at h1 h2 h3 h4 ⊢;generalize s.boxes.map ah=r1 at*;generalize s.gone.map (fun n=>[I n])=r2 at*;simp (maxSteps:=9^9) [bB,bt.m,bt.b,ar,aa,setAt,ak,h1,h2,h3,h4]
  |a::b::r=>
   refine⟨{x with view:=b::r},i3,q3,⟨?_, ?_⟩,hi3,aq (b:=bt.m) h0 ⟨0, ?_⟩⟩
   ·simp only;rw[hv] at hnd;exact(List.nodup_cons.1 hnd).2
   ·simp only;rw[hv] at vx;simp only[ae] at vx ⊢;omega
   ·simp only[ei,cN,dw,ints,ao,boxes,e0,hv,au,aL] at h1 h2 h3 h4 ⊢;generalize hrr:r.map (fun n=>[I n])=rr at*;have rl:rr.length=r.length:=by rw[←hrr];simp
    generalize s.boxes.map ah=r1 at*;generalize s.gone.map (fun n=>[I n])=r2 at*;have hpos:(0:Int)<(r.length:Int)+1+1:=by omega
    have hle:1+(r.length+1)≤r.length+1+1:=by omega
    simp (maxSteps:=9^9) [bB,bt.m,bt.b,ar,aa,setAt,ak,h1,h2,h3,h4,rl,hpos,hle]
 have d4:¬(k:Int)=4:=by omega
 refine⟨x,i3,q3,⟨hnd,by omega⟩,hi3,aq (b:=bt.m) h0 ⟨0, ?_⟩⟩;simp only[ei,cN,dw,ints,ao,boxes] at h1 h2 h3 h4 ⊢;generalize au x.view=rv at*;generalize s.boxes.map ah=r1 at*;generalize au s.gone=r2 at*;simp (maxSteps:=9^9) [bB,bt.m,bt.b,ar,aa,setAt,ak,h1,h2,h3,h4,vl,vt,c0,c1,c2,c3,c4,d0,d1,d2,d3,d4]
theorem du.aE(h:du.k M){R:List (List T)}(hR:Bytes R):
  ∃(x:a5) (s:aP),B1 x∧aW s=true∧run M 92 [.c (.sl false 1 R)] []=some (.hC [.a (cN x),.a (ao s)],[]):=by
 obtain⟨h0,k1,ks,ka⟩:=h;obtain⟨q0,h1⟩:=cV.aE k1 hR;obtain⟨s,i1,q1,hU,hi1,h2⟩:=dq.aE ks hR 0 q0 (Nat.zero_le _);obtain⟨x,i2,q2,hx,hi2,h3⟩:=bt.aE ka hR i1 q1 hi1 s hU;refine⟨x,s,hx,hU.ok,aq (b:=du.m) h0 ⟨0, ?_⟩⟩;have e0:((0:Nat):Int)=0:=rfl;simp only[ei,cN,ints,ao,bm,boxes,e0] at h1 h2 h3 ⊢;generalize au x.view=rv at*;generalize s.boxes.map ah=r1 at*;generalize au s.gone=r2 at*;simp (maxSteps:=9^9) [bB,du.m,du.b,ar,aa,setAt,ak,h1,h2,h3]
theorem tj(h:dI.k M)(a:List UInt8)(ha:a.length≤1000):run M 191 [.c (.sl false 1 [[S a]])] []=some (.c (S (a++[13,10])),[]):=by
 have w1:IntKind.i64.wrap 1=1:=wrap_i64 (by omega) (by omega);have w2:IntKind.i64.wrap 2=2:=wrap_i64 (by omega) (by omega);have w3:IntKind.i64.wrap 3=3:=wrap_i64 (by omega) (by omega);refine aq (b:=dI.m) h ⟨3, ?_⟩;simp (maxSteps:=9^9) (disch:=(first|omega|(simp;done)|(simp;omega))) [bB,dI.m,dI.b,ar,aa,setAt,ak,dP,dI.l0,add_lit,iu,w1,w2,w3]
theorem oJ(h:dI.k M)(a b c:List UInt8)(ha:a.length≤1000)(hb:b.length≤1000)(hc:c.length≤1000):run M 191 [.c (.sl false 1 [[S a],[S b],[S c]])] []=some (.c (S (a++[32]++b++[32]++c++[13,10])),[]):=by
 have w1:IntKind.i64.wrap 1=1:=wrap_i64 (by omega) (by omega);have w2:IntKind.i64.wrap 2=2:=wrap_i64 (by omega) (by omega);have w3:IntKind.i64.wrap 3=3:=wrap_i64 (by omega) (by omega);refine aq (b:=dI.m) h ⟨5, ?_⟩;simp (maxSteps:=9^9) (disch:=(first|omega|(simp;done)|(simp;omega))) [bB,dI.m,dI.b,ar,aa,setAt,ak,dP,dI.l0,add_lit,iu,w1,w2,w3]
def yB(b:cX)(i:Nat)(x:Nat×Nat):St:=
 {t:=[(3,.c (.row 6 x.1 0 i)),(8,.c (af b.af)),(9,.c (I b.af.length)),(10,.c (I i))],o:=[(6,⟨x.1,1,true,false,au ((aI b).take i)⟩)],n:=x.2}
def Ax(b:cX)(x:Nat×Nat):St:=
 {t:=[(3,.c (.row 6 x.1 0 b.af.length)),(8,.c (af b.af)),(9,.c (I b.af.length)),(10,.c (I b.af.length)),(11,.c (.bool false))],o:=[(6,⟨x.1,1,true,false,au (aI b)⟩)],n:=x.2}
theorem dh.aE(h:dh.k M)(b:cX)(hb:b.af.length≤1048576):run M 192 [.a (ah b)] []=some (.c (.sl true 1 (au (aI b))),[]):=by
 have er:(b.af.map aD).length=b.af.length:=by simp
 have gl:(aI b).length=b.af.length:=by simp[aI]
 obtain⟨g,hr⟩:=e_ (f:=b9 (run M) (b.af.length+1) dh.l0) b.af.length (yB b) 0 (Ax b)
  (fun i hi x=>by
   obtain⟨v5,n⟩:=x;have a1:∀hh,(b.af.map aD)[i]'hh=aD b.af[i]:=by intro hh;simp
   have e5:=dS (i:=i) (by omega);have hi2:(i:Int)<b.af.length:=by omega
   have e6:i+1≤4294967296:=by omega
   have ef:(au ((aI b).take i)).length=i:=by simp;omega
   have et:(au ((aI b).take i)).take i=au ((aI b).take i):=aa (by omega);simp only[yB,bP,pZ hi];simp only[af,aD] at a1 er ⊢;generalize (b.af.map fun m:fi=>[I m.gid,I m.uid,iS m.flags,S m.text])=rm at*;generalize au ((aI b).take i)=rg at*;simp (maxSteps:=9^9) [dh.l0,ar,aa,setAt,ak,a1,er,hi,hi2,e5,e6,ef,et])
  (fun x=>by
   obtain⟨v5,n⟩:=x;have ef:(aI b).take b.af.length=aI b:=aa (by omega);simp only[yB,Ax,bP,ef];simp only[af,aD] at er ⊢;generalize (b.af.map fun m:fi=>[I m.gid,I m.uid,iS m.flags,S m.text])=rm at*;generalize au (aI b)=rg at*;simp (maxSteps:=9^9) [dh.l0,ar,aa,setAt,ak,er])
 refine aq (b:=dh.m) h ⟨b.af.length+1, ?_⟩;have e0:((0:Nat):Int)=0:=rfl;have ef:(au (aI b)).length=b.af.length:=by simp[aI]
 have et:(au (aI b)).take b.af.length=au (aI b):=aa (by omega);simp only[yB,Ax,Prod.forall,e0,List.take_zero,fN] at hr;simp only[ah,af,ints] at hr er ⊢;generalize au (aI b)=rg at*;generalize b.af.map aD=rm at*;simp (maxSteps:=9^9) [bB,dh.m,dh.b,ar,aa,setAt,ak,hr,ef,et,er]
def Bj(f:Nat)(cs:List T)(l:List Int)(i:Nat)(x:Nat):St:={t:=[(0,.c (ints l)),(1,.c (.fn f [.vp cs 0])),(7,.c (I l.length)),(8,.c (I i))],o:=[],n:=x}
theorem aQ.gen(h:aQ.k M){f:Nat}{cs:List T}{p:Int→Bool}(hf:∀m,run M f [.c (I m),.c (.vp cs 0)] []=some (.c (.bool (p m)),[]))(l:List Int)(hl:l.length≤1048576):
  run M 246 [.c (ints l),.c (.fn f [.vp cs 0])] []=some (.c (I (di (dn (rI p l) l.length))),[]):=by
 have er:(au l).length=l.length:=by simp
 refine aq (b:=aQ.m) h ⟨l.length+1, ?_⟩;obtain⟨g',hr⟩:=gV (f:=b9 (run M) (l.length+1) aQ.l0) l.length (rI p l) (Bj f cs l) eS jy
  (fun i hi x c=>by
   have hm:=hf l[i];rw[gD p l i hi] at c;rw[c] at hm;have a1:∀hh,(au l)[i]'hh=[I l[i]]:=by intro hh;simp
   have e5:=dS (i:=i) (by omega);have hi2:(i:Int)<l.length:=by omega
   simp only[Bj,ints];generalize au l=rl at*;simp (maxSteps:=9^9) [aQ.l0,ar,aa,setAt,ak,hi,hi2,hm,e5,a1,er])
  (fun i hi x c=>by
   have hm:=hf l[i];rw[gD p l i hi] at c;rw[c] at hm;have a1:∀hh,(au l)[i]'hh=[I l[i]]:=by intro hh;simp
   have hi2:(i:Int)<l.length:=by omega
   simp only[Bj,ints,eS];generalize au l=rl at*;simp (maxSteps:=9^9) [aQ.l0,ar,aa,setAt,ak,hi,hi2,hm,a1,er];exact⟨⟨[],[],_⟩,rfl⟩)
  (fun x=>by simp only[Bj,eS];simp (maxSteps:=9^9) [aQ.l0,ar,aa,setAt,ak])
 cases hm:dn (rI p l) l.length with
 |none=>
  simp only[Bj,hm,eS,ints] at hr;simp only[di,ints];generalize au l=rl at*;have e0:((0:Nat):Int)=0:=rfl;simp only[e0] at hr;simp (maxSteps:=9^9) [bB,aQ.m,aQ.b,ar,aa,setAt,ak,hr,er]
 |some k=>
  simp only[Bj,hm,eS,ints] at hr;simp only[di,ints];generalize au l=rl at*;have e0:((0:Nat):Int)=0:=rfl;simp only[e0] at hr;simp (maxSteps:=9^9) [bB,aQ.m,aQ.b,ar,aa,setAt,ak,hr,er]
theorem bf.gen(h:bf.k M){f:Nat}{cs:List T}{p:Int→Bool}(hf:∀m,run M f [.c (I m),.c (.vp cs 0)] []=some (.c (.bool (p m)),[]))(l:List Int)(hl:l.length≤1048576):
  run M 194 [.c (ints l),.c (.fn f [.vp cs 0])] []=some (.c (.bool (l.any p)),[]):=by
 have h1:=aQ.gen h.2 hf l hl;have e:(decide ((0:Int)≤di (dn (rI p l) l.length)))=l.any p:=by
  cases q:dn (rI p l) l.length with
  |none=>
   have hn:=i_ q;have:l.any p=false:=by
    rw[List.any_eq_false];intro b hb;obtain⟨j,hj,rfl⟩:=cr hb;have:=hn j hj;rw[gD _ _ _ hj] at this;simp[this]
   rw[this];decide
  |some k=>
   obtain⟨h1,h2,_⟩:=hZ q;rw[gD _ _ _ h1] at h2;have:l.any p=true:=List.any_eq_true.2 ⟨_,ax h1,h2⟩;rw[this];exact decide_eq_true (Int.natCast_nonneg k)
 refine aq (b:=bf.m) h.1 ⟨0, ?_⟩;rw[←e];simp only[ints] at h1 ⊢;generalize au l=rl at*;simp (maxSteps:=9^9) [bB,bf.m,bf.b,ar,aa,setAt,ak,h1]
theorem ee.aE(h:ee.k M)(x:a5)(hx:x.view.length≤1000)(g:Int):run M 193 [.c (I g),.c (.vp (cN x) 0)] []=some (.c (.bool (!decide (g∈x.view))),[]):=by
 have h1:=bd.aE h.2 x.view g (by omega);refine aq (b:=ee.m) h.1 ⟨0, ?_⟩;simp only[cN,ints] at h1 ⊢;generalize au x.view=rv at*;simp (maxSteps:=9^9) [bB,ee.m,ee.b,ar,aa,setAt,ak,h1]
structure Bq where
 v2:Nat
 v4:Nat
 v6:Nat
 vr:Nat
 vg:Nat
 n:Nat
def A8(x:a5)(G:List Int)(y:Bq):List (Nat×Ob):=[(2,⟨y.v2,6,true,true,[cN x]⟩),(4,⟨y.v4,6,true,true,[lA]⟩),(6,⟨y.v6,6,true,true,[[S x.AW,S x.out,.bool x.on,.bool x.over,I x.box,.row 11405 y.vr 0 x.view.length]]⟩),
 (11405,⟨y.vr,1,true,false,au x.view⟩),(13600,⟨y.vg,1,true,false,au G⟩)]
def BA(x:a5)(G:List Int)(i:Nat)(y:Bq):List (Nat×V):=[(2,.c (.ptr 2 y.v2 0 0)),(4,.c (.ptr 4 y.v4 0 0)),(6,.c (.ptr 6 y.v6 0 0)),(8,.c (.row 13600 y.vg 0 G.length)),(9,.c (S (gK G (x.view.take i)).2)),(10,.c (I ((gK G (x.view.take i)).1+1))),(38,.c (ints x.view)),(39,.c (I x.view.length)),(40,.c (I i))]
def Al(x:a5)(G:List Int)(i:Nat)(y:Bq):St:={t:=BA x G i y,o:=A8 x G y,n:=y.n}
def BB(x:a5)(G:List Int)(y:Bq):St:={t:=BA x G x.view.length y++[(41,.c (.bool false))],o:=A8 x G y,n:=y.n}
theorem cj.loop(kc:bd.k M)(kd:bM.k M)(kl:dI.k M)(k:Nat)(x:a5)(hx:x.view.length≤1000)(G:List Int)(hG:G.length≤1000):
  ∃g:Bq→Bq,∀y,dP (b9 (run M) k cj.l0) (x.view.length+1) (Al x G 0 y)=some (.exit 0,BB x G (g y)):=by
 have er:(au x.view).length=x.view.length:=by simp
 have eg:(au G).length=G.length:=by simp
 refine e_ (f:=b9 (run M) k cj.l0) x.view.length (Al x G) 0 (BB x G) (fun i hi y=> ?_) (fun y=> ?_)
 ·obtain⟨v2,v4,v6,vr,vg,n⟩:=y;have h1:=bd.aE kc G x.view[i] (by omega);have a1:∀hh,(au x.view)[i]'hh=[I x.view[i]]:=by intro hh;simp
  have e5:=dS (i:=i) (by omega);have hi2:(i:Int)<x.view.length:=by omega
  have hc:=nW G (x.view.take i);have hl:=kP G (x.view.take i) (by rw[dJ];omega);rw[dJ] at hc hl;have gt:(au G).take G.length=au G:=aa (by omega);have hh:∃n',b9 (run M) k cj.l0 (Al x G i ⟨v2,v4,v6,vr,vg,n⟩)=some (.normal,Al x G (i+1) ⟨v2,v4,v6,vr,vg,n'⟩):=by
   simp only[Al,BA,p_ hi];generalize gK G (x.view.take i)=c at*;obtain⟨m,t⟩:=c;simp only at hc hl ⊢;have h2:=bM.aE kd ((m:Int)+1) (by omega) (by omega);have hd:=fX (n:=(m:Int)+1) (by omega) (by omega);have ez:((m+1:Nat):Int)=(m:Int)+1:=by omega
   have e6:IntKind.i64.wrap ((m:Int)+1+1)=(m:Int)+1+1:=wrap_i64 (by omega) (by omega);by_cases c1:x.view[i]∈G
   ·rw[decide_eq_true c1] at h1;simp only[my,c1,if_true,ez];simp only[A8,cN,ints] at h1 a1 er ⊢;generalize x.view[i]=g at*;generalize au x.view=rv at*;generalize au G=rg at*;simp (maxSteps:=9^9) [cj.l0,ar,aa,setAt,ak,h1,a1,er,eg,gt,hi,hi2,e5,e6]
   ·rw[decide_eq_false c1] at h1;simp only[my,c1,if_false,kF,zx,ez];have h3:=oJ kl [42] (dec ((m:Int)+1)) [69,88,80,85,78,71,69] (by simp) (by omega) (by simp);simp only[A8,cN,ints] at h1 a1 er ⊢;generalize x.view[i]=g at*;generalize au x.view=rv at*;generalize au G=rg at*;generalize dec ((m:Int)+1)=d at*;have h4:=ak t ([42]++[32]++d++[32]++[69,88,80,85,78,71,69]++[13,10]) (by simp only[aN,ae,ai];omega);simp only[List.cons_append,eu,cY] at h3 h4;simp (maxSteps:=9^9) [cj.l0,ar,aa,setAt,ak,h1,h2,h3,h4,a1,er,eg,gt,hi,hi2,e5,e6]
  obtain⟨n',hh⟩:=hh;exact⟨_,hh⟩
 ·obtain⟨v2,v4,v6,vr,vg,n⟩:=y;have hh:∃n',b9 (run M) k cj.l0 (Al x G x.view.length ⟨v2,v4,v6,vr,vg,n⟩)=some (.exit 0,BB x G ⟨v2,v4,v6,vr,vg,n'⟩):=by
   simp only[Al,BB,BA];generalize gK G (x.view.take x.view.length)=c at*;obtain⟨m,t⟩:=c;simp only[A8,cN,ints] at er ⊢;generalize au x.view=rv at*;generalize au G=rg at*;simp (maxSteps:=9^9) [cj.l0,ar,aa,setAt,ak,er]
  obtain⟨n',hh⟩:=hh;exact⟨_,hh⟩
theorem cj.aE(h:cj.k M)(x:a5)(hx:x.view.length≤1000)(s:aP)(hs:s.boxes.length≤1000)(hb:∀b∈s.boxes,b.af.length≤1000):
  run M 93 [.a (cN x),.a (ao s)] []=some (.hC [.a (dw (told hH x s).1),.c (S (told hH x s).2)],[]):=by
 obtain⟨h0,kb,kd,kc,kcp,kl,kg,k1,kf⟩:=h;have h1:=cR.aE kcp x (by omega);have h2:=ec.aE kb s x.box (by omega);have er:(au x.view).length=x.view.length:=by simp
 have et:(au x.view).take x.view.length=au x.view:=aa (by omega);by_cases c0:x.box=0
 ·rw[iB c0];refine aq (b:=cj.m) h0 ⟨0, ?_⟩;simp only[ao,boxes,ints,cN,dw] at h1 ⊢;rw[c0] at h1 ⊢;generalize au x.view=rv at*;generalize s.boxes.map ah=r1 at*;generalize au s.gone=r2 at*;simp (maxSteps:=9^9) [bB,cj.m,cj.b,ar,aa,setAt,ak,h1,er,et]
 ·cases q:gH s.boxes x.box with
  |none=>
   have e:told hH x s=({x with box:=0,view:=[]},se):=by simp only[told,if_neg c0,q]
   rw[e];rw[q] at h2;have h3:=tj kl [42,32,66,89,69,32,98,111,120] (by simp);simp only[List.cons_append,eu] at h3;refine aq (b:=cj.m) h0 ⟨0, ?_⟩;simp only[ao,boxes,ints,cN,dw,se,di] at h1 h2 ⊢;generalize au x.view=rv at*;generalize s.boxes.map ah=r1 at*;generalize au s.gone=r2 at*;simp (maxSteps:=9^9) [bB,cj.m,cj.b,ar,aa,setAt,ak,h1,h2,h3,er,et,c0]
  |some k=>
   obtain⟨hk,_⟩:=eE q;rw[q] at h2;have hbk:=hb _ (ax hk);have e:told hH x s=({x with view:=aI s.boxes[k]},(gK (aI s.boxes[k]) x.view).2++if hH (aI s.boxes[k]) x.view=true then kF++(dec ((aI s.boxes[k]).length:Int)++tn) else []):=by
    simp only[told,if_neg c0,q,cg hk]
   rw[e];have h3:=dh.aE kg s.boxes[k] (by omega);have gl:(aI s.boxes[k]).length=s.boxes[k].af.length:=by simp[aI]
   obtain⟨g,hr⟩:=cj.loop kc kd kl (x.view.length+1) x hx (aI s.boxes[k]) (by omega);have h5:=bf.gen kf (fun m=>ee.aE k1 x hx m) (aI s.boxes[k]) (by omega);have a1:∀hh,(s.boxes.map ah)[k]'hh=ah s.boxes[k]:=by intro hh;simp
   have el:(s.boxes.map ah).length=s.boxes.length:=by simp
   have hcl:=nW (aI s.boxes[k]) x.view;have htl:=kP (aI s.boxes[k]) x.view (by omega);have hgle:(aI s.boxes[k]).length≤1000:=by omega
   have h4:=bM.aE kd ((aI s.boxes[k]).length:Int) (by omega) (by omega);have hd:=fX (n:=((aI s.boxes[k]).length:Int)) (by omega) (by omega);have h6:=oJ kl [42] (dec ((aI s.boxes[k]).length:Int)) [69,88,73,83,84,83] (by simp) (by omega) (by simp);have e0:((0:Nat):Int)=0:=rfl;have ec0:gK (aI s.boxes[k]) []=(0,[]):=rfl;have fl:(au (aI s.boxes[k])).length=(aI s.boxes[k]).length:=by simp
   have ft:(au (aI s.boxes[k])).take (aI s.boxes[k]).length=au (aI s.boxes[k]):=aa (by omega);have hk0:¬(k:Int)<0:=by omega
   have e01:(0:Int)+1=1:=rfl;refine aq (b:=cj.m) h0 ⟨x.view.length+1, ?_⟩;have hr:=fun n=>hr ⟨2000000,2000032,2000096,2000085,2000368,n⟩
   simp only[Al,BB,BA,A8,List.take_zero,ec0,List.take_length,e0,e01] at hr;unfold hH;generalize aI s.boxes[k]=G at*;have h7:=ak (gK G x.view).2 ([42]++[32]++dec (G.length:Int)++[32]++[69,88,73,83,84,83]++[13,10]) (by simp only[aN,ae,ai];omega);simp only[List.cons_append,eu,cY] at h6 h7;simp only[ao,boxes,ints,cN,dw,ah,af,di,lA,kF,tn,List.cons_append,eu] at h1 h2 h3 h5 a1 hr ⊢;generalize (G.any fun g=> !decide (g∈x.view))=nb at*;generalize gK G x.view=c at*;obtain⟨m,t⟩:=c;simp only at hcl htl hr h7 ⊢;generalize au x.view=rv at*;generalize au G=rg at*;generalize au s.gone=r2 at*;generalize au s.boxes[k].gone=r3 at*;generalize dec (G.length:Int)=d at*;generalize G.length=gln at*;generalize s.boxes[k].af.map aD=rm at*;generalize (s.boxes.map fun b:cX=>[I b.gid,S b.name,I b.time,I b.eP,I b.next,T.sl false 4 (b.af.map aD),T.sl false 1 (au b.gone)])=r1 at*;cases nb with
   |true=>
    rw[if_pos rfl];simp (maxSteps:=9^9) [bB,cj.m,cj.b,ar,aa,setAt,ak,h1,h2,h3,h4,h5,h6,h7,hr,a1,el,er,et,fl,ft,c0,hk,hk0]
   |false=>
    rw[if_neg (by decide)];simp (maxSteps:=9^9) [bB,cj.m,cj.b,ar,aa,setAt,ak,h1,h2,h3,h5,hr,a1,el,er,et,fl,ft,c0,hk,hk0]
theorem cQ.self(h:cQ.k M)(x:a5)(hx:x.view.length≤1000):run M 96 [.a (cN x),.a (cN x)] []=some (.c (.bool true),[]):=by
 obtain⟨h0,k1⟩:=h;have h1:=cH.self k1 x.view (by omega);have h2:=lT x.AW x.AW;have h3:=lT x.out x.out;refine aq (b:=cQ.m) h0 ⟨0, ?_⟩;simp only[cN,ints] at h1 ⊢;generalize au x.view=rv at*;simp (maxSteps:=9^9) [bB,cQ.m,cQ.b,ar,aa,setAt,ak,h1,h2,h3]
theorem cI.aE(h:cI.k M)(R:List (List T))(hl:R.length≤9223372036854775807)(hr:∀(i:Nat) (r:List T),R[i]? =some r→∃n:Int,r=[.int .u8 n]):
  run M 525 [.c (.sl false 1 R)] []=some (.c (.bool true),[]):=by
 obtain⟨h0,kbig,kd,ki,ks,kb,ksm,kn⟩:=h;have hbig:=eW.aE kbig R hl;by_cases cb:1048576<R.length
 ·refine aq (b:=cI.m) h0 ⟨0, ?_⟩;rw[decide_eq_true cb] at hbig;simp (maxSteps:=9^9) [bB,cI.m,cI.b,ar,aa,setAt,ak,hbig]
 rw[decide_eq_false cb] at hbig;have hR:Bytes R:=⟨by omega,hr⟩;obtain⟨x,s,hx,hs,h1⟩:=du.aE kd hR;have G:=bW.1 hs;have hsl:s.boxes.length≤1000:=by have:=G.len;omega
 have hbl:∀b∈s.boxes,b.af.length≤1000:=fun b hb=>by have:=(G.box b hb).1.len;omega
 have hxl:=hx.len;have h2:=cj.aE ki x (by omega) s hsl hbl;have h3:=bO.aE ks x (by omega) s hsl hbl;rw[←uS hx.nd (oL hs)] at h3;have hyl:(told hH x s).1.view.length≤1000:=by
  unfold told;split
  ·simp only;omega
  ·split
   ·simp
   ·split
    ·simp only;omega
    ·rename_i b hb;have:=hbl b (cT hb);simpa [aI] using this
 have h4:=cj.aE ki (told hH x s).1 hyl s hsl hbl;rw[sH] at h4;have h5:=ec.aE kb s (told hH x s).1.box (by omega);have h6:=cQ.self ksm (told hH x s).1 hyl;have h7:=c_.aE kn;have hseen:=fun q=>uR (x:=x) (s:=s) q
 generalize told hH x s=y at*;obtain⟨y,t⟩:=y;simp only at h2 h3 h4 h5 h6 hyl hseen;have e1:=lT t t;have bl:(s.boxes.map ah).length=s.boxes.length:=by simp
 refine aq (b:=cI.m) h0 ⟨0, ?_⟩;by_cases c0:y.box=0
 ·simp only[cN,dw,ao,boxes,ints,fo,c0] at h1 h2 h3 h4 h5 h6 h7 ⊢;generalize au x.view=rx at*;generalize au y.view=ry at*;generalize s.boxes.map ah=r1 at*;generalize au s.gone=r2 at*;simp (maxSteps:=9^9) [bB,cI.m,cI.b,ar,aa,setAt,ak,hbig,h1,h2,h3,h4,h5,h6,h7,e1,c0]
 ·obtain⟨k,hk,hq,hv⟩:=hseen c0;rw[hq] at h5;have a1:∀hh,(s.boxes.map ah)[k]'hh=ah s.boxes[k]:=by intro hh;simp
  have hk0:¬(k:Int)<0:=by omega
  have yl:(au y.view).length=s.boxes[k].af.length:=by rw[hv];simp[aI]
  have ml:(s.boxes[k].af.map aD).length=s.boxes[k].af.length:=by simp
  simp only[cN,dw,ao,boxes,ints,fo,di,ah,af] at h1 h2 h3 h4 h5 h6 h7 a1 ml ⊢;generalize au x.view=rx at*;generalize au y.view=ry at*;generalize s.boxes[k].af.map aD=rm at*;generalize au s.boxes[k].gone=r3 at*;generalize (s.boxes.map fun b:cX=>[I b.gid,S b.name,I b.time,I b.eP,I b.next,T.sl false 4 (b.af.map aD),T.sl false 1 (au b.gone)])=r1 at*;generalize au s.gone=r2 at*;simp (maxSteps:=9^9) [bB,cI.m,cI.b,ar,aa,setAt,ak,hbig,h1,h2,h3,h4,h5,h6,h7,e1,c0,hk,hk0,a1,yl,ml,bl]
theorem cI.row(h:cI.k M){as:List V}(ha:qi [.cell (.sl [.int .u8])] as):run M 525 as []=some (.c (.bool true),[]):=by
 cases ha with|cons h0 ha=>
 cases ha;cases h0 with|cell h0=>
 cases h0 with|sl _ rows hl h1 h2=>
 refine cI.aE h rows (Nat.le_trans hl (by decide)) fun i r hr=> ?_
 have hlen:=h1 i r hr
 match r,hlen with
 |[a],_=>
  obtain⟨n,rfl⟩:=zo (h2 i 0 [a] (.int .u8) a hr rfl rfl);exact⟨n,rfl⟩
end Mx
