/-
  What more of the functions compute, each by a small evaluation; no condition beyond what each says.
-/
import Derived.Test.YtcihgbflbmhkbaaGreatMxCad
set_option maxHeartbeats 16000000
set_option linter.unusedSimpArgs false
set_option linter.unusedVariables false
namespace Mx
open Go
variable {M:Nat→Option Body}
def Hi(d:Nat):UInt8:=UInt8.ofNat (48+d)
def w_(m:Nat)(acc:List UInt8):List UInt8:=if m=0 then acc else w_ (m/10) (Hi (m%10)::acc)
termination_by m
decreasing_by omega
theorem qQ(acc:List UInt8):w_ 0 acc=acc:=by rw[w_];simp
theorem tq{m:Nat}(h:m≠0)(acc:List UInt8):w_ m acc=w_ (m/10) (Hi (m%10)::acc):=by rw[w_,if_neg h]
def dec(n:Int):List UInt8:=if n=0 then [48] else(if n<0 then [45] else [])++w_ n.natAbs []
theorem wm:∀(k m:Nat) (acc:List UInt8),m<10^k→(w_ m acc).length≤acc.length+k:=by
 intro k
 induction k with
 |zero=>intro m acc h;have:m=0:=by simpa using h
        subst this;rw[qQ];omega
 |succ k ih=>
  intro m acc h;by_cases h0:m=0
  ·subst h0;rw[qQ];omega
  ·rw[tq h0];have:=ih (m/10) (Hi (m%10)::acc) (by rw[Nat.pow_succ] at h;omega);simp at this;omega
theorem B8{n:Int}(h: -9223372036854775808≤n)(h':n≤9223372036854775807):(dec n).length≤21:=by
 unfold dec;have:=wm 20 n.natAbs [] (by omega);simp at this;split
 ·simp
 ·split<;>simp<;>omega
theorem gi.ar(h:gi.k M)(d:Nat)(hd:d<10):run M 247 [.c (I d)] []=some (.c (U8 (Hi d).toNat),[]):=by
 refine aB (b:=gi.m) h ⟨0, ?_⟩;have e0:(d:Int)<10:=by omega
 have e1:IntKind.i64.wrap (48+(d:Int))=48+(d:Int):=wrap_i64 (by omega) (by omega);have e2:IntKind.u8.wrap (48+(d:Int))=((Hi d).toNat:Int):=by
  unfold IntKind.wrap;simp[IntKind.bits,IntKind.signed,Hi]<;>omega
 simp[bl,gi.m,gi.b,aa,e0,e1,e2]
def vm(b:Bool)(s:Int×List UInt8)(x:Nat):St:={t:=[(0,.c (I s.1)),(3,.c (.bool b)),(4,.c (S s.2))],o:=[],n:=x}
def tr(s:Int×List UInt8):Prop:= -9223372036854775808≤s.1∧s.1≤9223372036854775807∧∃k,s.1.natAbs<10^k∧s.2.length+k≤20
theorem uu{n:Int}{acc:List UInt8}(h:tr (n,acc))(h0:n≠0)(b:UInt8):tr (n.tdiv 10,b::acc):=by
 obtain⟨h1,h2,k,h3,h4⟩:=h;simp only at h1 h2 h3 h4;have e:(n.tdiv 10).natAbs=n.natAbs/10:=by rw[Int.natAbs_tdiv];rfl
 cases k with
 |zero=>simp at h3;omega
 |succ k=>exact⟨by simp only;omega,by simp only;omega,k,by simp only;rw[e];rw[Nat.pow_succ] at h3;omega,by simp;omega⟩
theorem sb(n:Int):n.tmod 10=(n.natAbs%10:Nat)∨(n.tmod 10<0∧n.tmod 10= - (n.natAbs%10:Nat)):=by
 have e:(n.tmod 10).natAbs=n.natAbs%10:=by rw[Int.natAbs_tmod];rfl
 omega
theorem cT.round(h:cT.k M)(k:Nat)(b:Bool)(s:Int×List UInt8)(x:Nat)(hi:tr s)(h0:s.1≠0):
  ∃y,ct (run M) k cT.l0 (vm b s x)=some (.normal,vm b (s.1.tdiv 10,Hi (s.1.natAbs%10)::s.2) y):=by
 obtain⟨n,acc⟩:=s;obtain⟨h1,h2,k',h3,h4⟩:=hi;simp only at h0 h1 h2 h3 h4;have hf:=gi.ar h.2 (n.natAbs%10) (by omega);have ed:(n.tdiv 10).natAbs=n.natAbs/10:=by rw[Int.natAbs_tdiv];rfl
 have e1:IntKind.i64.wrap (n.tdiv 10)=n.tdiv 10:=wrap_i64 (by omega) (by omega);have e2:acc.length+1≤4611686018427387904:=by omega
 have e3:1+acc.length≤4611686018427387904:=by omega
 rcases sb n with ht|⟨ht0,ht⟩
 ·have e0:¬(((n.natAbs%10:Nat):Int)<0):=by omega
  generalize n.natAbs%10=d at*;simp only[vm,cT.l0];simp (disch:=(first|omega|(simp;done)|(simp;omega))) [h0,ht,hf,e1,e0,eN,mC]
 ·have e0:n.tmod 10<0:=ht0;have e4:IntKind.i64.wrap (0-n.tmod 10)=((n.natAbs%10:Nat):Int):=by rw[wrap_i64 (by omega) (by omega)];omega
  generalize n.natAbs%10=d at*;simp only[vm,cT.l0];simp only[Int.zero_sub] at e4;simp (disch:=(first|omega|(simp;done)|(simp;omega))) [h0,e0,e4,hf,e1,eN,mC]
theorem cT.ar(h:cT.k M)(n:Int)(hn: -9223372036854775808≤n)(hn':n≤9223372036854775807):run M 197 [.c (I n)] []=some (.c (S (dec n)),[]):=by
 refine aB (b:=cT.m) h.1 ⟨n.natAbs+1, ?_⟩;by_cases h0:n=0
 ·simp[bl,cT.m,cT.b,aa,h0,dec]
 obtain⟨g,hr⟩:=ji (f:=ct (run M) (n.natAbs+1) cT.l0) (vm (decide (n<0))) tr (fun s=>s.1.natAbs) (fun s=>w_ s.1.natAbs s.2)
  (fun q m=>(.exit 0,{t:=[(0,.c (I 0)),(3,.c (.bool (decide (n<0)))),(4,.c (S q)),(11,.c (.bool false))],o:=[],n:=m}))
  (by
   intro s x hi;by_cases hs:s.1=0
   ·right;exact⟨x+32,by simp[vm,cT.l0,hs,qQ],by simp⟩
   ·left;obtain⟨y,hy⟩:=cT.round h (n.natAbs+1) (decide (n<0)) s x hi hs;have e:(s.1.tdiv 10).natAbs=s.1.natAbs/10:=by rw[Int.natAbs_tdiv];rfl
    refine⟨_,y,hy,uu hi hs _,by simp only;omega, ?_⟩;simp only[e];exact(tq (by omega) _).symm)
  (n.natAbs+1) (n,[]) ⟨hn,hn',20,by simp only;omega,by simp⟩ (by simp only;omega)
 have hl:=wm 20 n.natAbs [] (by omega);simp[vm] at hr hl;by_cases hneg:n<0
 ·simp[hneg] at hr;simp (disch:=(first|omega|(simp;done)|(simp;omega))) [bl,cT.m,cT.b,aa,h0,dec,hneg,hr,eN]
 ·simp[hneg] at hr;simp (disch:=(first|omega|(simp;done)|(simp;omega))) [bl,cT.m,cT.b,aa,h0,dec,hneg,hr]
def xL(n:Int)(s:Int×List UInt8)(x:Nat):St:={t:=[(0,.c (I n)),(3,.c (S s.2)),(4,.c (I s.1))],o:=[],n:=x}
theorem Jc:∀d:Nat,d<10→∃h:d<16,([48,49,50,51,52,53,54,55,56,57,97,98,99,100,101,102]:List UInt8)[d]=Hi d:=by decide
theorem db.round(k:Nat)(n0:Int)(s:Int×List UInt8)(x:Nat)(hi:tr s)(h0:s.1≠0):
  ∃y,ct (run M) k db.l0 (xL n0 s x)=some (.normal,xL n0 (s.1.tdiv 10,Hi (s.1.natAbs%10)::s.2) y):=by
 obtain⟨n,acc⟩:=s;obtain⟨h1,h2,k',h3,h4⟩:=hi;simp only at h0 h1 h2 h3 h4;have ed:(n.tdiv 10).natAbs=n.natAbs/10:=by rw[Int.natAbs_tdiv];rfl
 have e1:IntKind.i64.wrap (n.tdiv 10)=n.tdiv 10:=wrap_i64 (by omega) (by omega);have e2:acc.length+1≤4611686018427387904:=by omega
 have e3:1+acc.length≤4611686018427387904:=by omega
 have hd:n.natAbs%10<10:=by omega
 have e5:IntKind.i64.wrap (((n.natAbs%10:Nat):Int)+1)=((n.natAbs%10+1:Nat):Int):=wrap_i64 (by omega) (by omega);have e4:IntKind.i64.wrap (-(n.tmod 10))= -(n.tmod 10):=wrap_i64 (by have:=sb n;omega) (by have:=sb n;omega);have e6:(if n.tmod 10< -(n.tmod 10) then -(n.tmod 10) else n.tmod 10)=((n.natAbs%10:Nat):Int):=by
  rcases sb n with ht|⟨ht0,ht⟩<;>split<;>omega
 generalize n.natAbs%10=d at*;obtain⟨hd16,hfig⟩:=Jc d hd;have e7:=Aw ([48,49,50,51,52,53,54,55,56,57,97,98,99,100,101,102]:List UInt8) d hd16;rw[hfig] at e7;simp only[List.take_succ_cons] at e7;have e8:d+1≤16:=by omega
 have e9:(0:Int)≤(d:Int)+1:=by omega
 have e10:((d:Int)+1).toNat=d+1:=by omega
 simp only[xL,db.l0];simp (disch:=(first|omega|(simp;done)|(simp;omega))) [h0,e4,e5,e6,e7,e8,e9,e10,e1,eN]
theorem db.ar(h:db.k M)(n:Int)(hn: -9223372036854775808≤n)(hn':n≤9223372036854775807):run M 128 [.c (I n)] []=some (.c (S (dec n)),[]):=by
 refine aB (b:=db.m) h ⟨n.natAbs+1, ?_⟩;by_cases h0:n=0
 ·simp[bl,db.m,db.b,aa,h0,dec]
 obtain⟨g,hr⟩:=ji (f:=ct (run M) (n.natAbs+1) db.l0) (xL n) tr (fun s=>s.1.natAbs) (fun s=>w_ s.1.natAbs s.2)
  (fun q m=>(.exit 0,{t:=[(0,.c (I n)),(3,.c (S q)),(4,.c (I 0)),(10,.c (.bool false))],o:=[],n:=m}))
  (by
   intro s x hi;by_cases hs:s.1=0
   ·right;exact⟨x+32,by simp[xL,db.l0,hs,qQ],by simp⟩
   ·left;obtain⟨y,hy⟩:=db.round (n.natAbs+1) n s x hi hs;have e:(s.1.tdiv 10).natAbs=s.1.natAbs/10:=by rw[Int.natAbs_tdiv];rfl
    refine⟨_,y,hy,uu hi hs _,by simp only;omega, ?_⟩;simp only[e];exact(tq (by omega) _).symm)
  (n.natAbs+1) (n,[]) ⟨hn,hn',20,by simp only;omega,by simp⟩ (by simp only;omega)
 have hl:=wm 20 n.natAbs [] (by omega);simp[xL] at hr hl;by_cases hneg:n<0
 ·simp (disch:=(first|omega|(simp;done)|(simp;omega))) [bl,db.m,db.b,aa,h0,dec,hneg,hr,eN]
 ·simp (disch:=(first|omega|(simp;done)|(simp;omega))) [bl,db.m,db.b,aa,h0,dec,hneg,hr]
def jT(s:List UInt8)(g:Int):List UInt8:=s.take 6++[120]++if 0<g then(dec g).drop ((dec g).length-5) else []
theorem cG.ar(h:cG.k M)(s:List UInt8)(g:Int)(hs:s.length≤1048576)(hg:g≤9223372036854775807):run M 484 [.c (S s),.c (I g)] []=some (.c (S (jT s g)),[]):=by
 obtain⟨h0,k1⟩:=h;refine aB (b:=cG.m) h0 ⟨0, ?_⟩;unfold jT;have e0:∀x y:Int,x≤y→(if y<x then y else x)=x:=fun x y h=>by rw[if_neg (by omega)]
 have a1:jO .add (bs s) ⟨#[120]⟩=some (S (s++[120])):=eN s [120] (by simp;omega);have a2:jO .add (bs (s.take 6)) ⟨#[120]⟩=some (S (s.take 6++[120])):=eN (s.take 6) [120] (by simp;omega);by_cases c:0<g
 ·have h1:=db.ar k1 g (by omega) hg;have hl:=B8 (n:=g) (by omega) hg;rw[if_pos c];generalize dec g=d at*;have a3:∀k,jO .add (bs (s++[120])) (bs (d.drop k))=some (S (s++[120]++d.drop k)):=fun k=>eN (s++[120]) (d.drop k) (by simp;omega)
  have a4:∀k,jO .add (bs (s.take 6++[120])) (bs (d.drop k))=some (S (s.take 6++[120]++d.drop k)):=fun k=>eN (s.take 6++[120]) (d.drop k) (by simp;omega)
  have a5:=a3 0;have a6:=a4 0;rw[List.drop_zero] at a5 a6;have ed:d.take d.length=d:=List.take_length;have e1:IntKind.i64.wrap ((d.length:Int)-5)=(d.length:Int)-5:=wrap_i64 (by omega) (by omega);by_cases c1:s.length<6
  ·have c1':(s.length:Int)<6:=by omega
   have t1:s.take 6=s:=ab (by omega);by_cases c2:d.length≤5
   ·have c2':¬(5:Int)<(d.length:Int):=by omega
    have e2:d.length-5=0:=by omega
    simp (maxSteps:=9^9) [bl,cG.m,cG.b,aa,h1,c,c1',c2',t1,e1,e2,max2,min2,a1,a5,ed]
   ·have c2':(5:Int)<(d.length:Int):=by omega
    have e3:(0:Int)≤(d.length:Int)-5:=by omega
    have e4:d.length-5≤d.length:=by omega
    have e7:(5:Int)≤(d.length:Int):=by omega
    have e2:((d.length:Int)-5).toNat=d.length-5:=by omega
    simp (maxSteps:=9^9) [bl,cG.m,cG.b,aa,h1,c,c1',c2',t1,e1,e2,e4,e7,max2,min2,a1,a3,ed]
  ·have c1':¬(s.length:Int)<6:=by omega
   have c6:6≤s.length:=by omega
   by_cases c2:d.length≤5
   ·have c2':¬(5:Int)<(d.length:Int):=by omega
    have e2:d.length-5=0:=by omega
    simp (maxSteps:=9^9) [bl,cG.m,cG.b,aa,h1,c,c1',c6,c2',e1,e2,max2,min2,a2,a6,ed]
   ·have c2':(5:Int)<(d.length:Int):=by omega
    have e3:(0:Int)≤(d.length:Int)-5:=by omega
    have e4:d.length-5≤d.length:=by omega
    have e7:(5:Int)≤(d.length:Int):=by omega
    have e2:((d.length:Int)-5).toNat=d.length-5:=by omega
    simp (maxSteps:=9^9) [bl,cG.m,cG.b,aa,h1,c,c1',c6,c2',e1,e2,e4,e7,max2,min2,a2,a4,ed]
 ·rw[if_neg c];by_cases c1:s.length<6
  ·have c1':(s.length:Int)<6:=by omega
   have t1:s.take 6=s:=ab (by omega);simp (maxSteps:=9^9) [bl,cG.m,cG.b,aa,c,c1',t1,min2,a1]
  ·have c1':¬(s.length:Int)<6:=by omega
   have c6:6≤s.length:=by omega
   simp (maxSteps:=9^9) [bl,cG.m,cG.b,aa,c,c1',min2,a2,c6]
theorem cv.ar(h:cv.k M)(s:List UInt8)(g:Int)(hs:s.length≤1048576)(hg:g≤9223372036854775807):run M 475 [.c (S s),.c (I g)] []=some (.c (S (jT s g)),[]):=by
 obtain⟨h0,k1⟩:=h;refine aB (b:=cv.m) h0 ⟨0, ?_⟩;unfold jT;obtain⟨t,ht,hl6,hcase⟩:∃t,t=s.take 6∧t.length≤6∧((6<s.length)∨(¬6<s.length∧t=s)):=⟨s.take 6,rfl,by simp;omega,by
  by_cases c:6<s.length
  ·exact .inl c
  ·exact .inr ⟨c,ab (by omega)⟩⟩
 rw[←ht];have a1:jO .add (bs t) ⟨#[120]⟩=some (S (t++[120])):=eN t [120] (by simp;omega);have a0:jO .add (bs (t++[120])) ⟨#[]⟩=some (S (t++[120])):=by
  have:=eN (t++[120]) [] (by simp;omega);rw[dZ] at this;exact this
 by_cases c:0<g
 ·have h1:=cT.ar k1 g (by omega) hg;have hl:=B8 (n:=g) (by omega) hg;rw[if_pos c];generalize dec g=d at*;have e1:IntKind.i64.wrap ((d.length:Int)-5)=(d.length:Int)-5:=wrap_i64 (by omega) (by omega);have a3:∀k,jO .add (bs (t++[120])) (bs (d.drop k))=some (S (t++[120]++d.drop k)):=fun k=>eN (t++[120]) (d.drop k) (by simp;omega)
  have a5:=a3 0;rw[List.drop_zero] at a5;have ed:d.take d.length=d:=List.take_length;rcases hcase with q|⟨q,q2⟩
  ·have q1:6≤s.length:=by omega
   have q3:(6:Int)<(s.length:Int):=by omega
   by_cases c2:d.length≤5
   ·have c2':¬(5:Int)<(d.length:Int):=by omega
    have c3:¬5<d.length:=by omega
    have e2:d.length-5=0:=by omega
    simp (maxSteps:=9^9) [bl,cv.m,cv.b,aa,h1,c,q1,q3,←ht,c2',e2,a1,a5]
   ·have c2':(5:Int)<(d.length:Int):=by omega
    have c3:5<d.length:=by omega
    have e2:((d.length:Int)-5).toNat=d.length-5:=by omega
    have e4:d.length-5≤d.length:=by omega
    have e7:(5:Int)≤(d.length:Int):=by omega
    simp (maxSteps:=9^9) [bl,cv.m,cv.b,aa,h1,c,q1,q3,←ht,c2',e1,e2,e4,e7,a1,a3,ed]
  ·subst q2;have q3:¬(6:Int)<(t.length:Int):=by omega
   by_cases c2:d.length≤5
   ·have c2':¬(5:Int)<(d.length:Int):=by omega
    have c3:¬5<d.length:=by omega
    have e2:d.length-5=0:=by omega
    simp (maxSteps:=9^9) [bl,cv.m,cv.b,aa,h1,c,q3,c2',e2,a1,a5]
   ·have c2':(5:Int)<(d.length:Int):=by omega
    have c3:5<d.length:=by omega
    have e2:((d.length:Int)-5).toNat=d.length-5:=by omega
    have e4:d.length-5≤d.length:=by omega
    have e7:(5:Int)≤(d.length:Int):=by omega
    simp (maxSteps:=9^9) [bl,cv.m,cv.b,aa,h1,c,q3,c2',e1,e2,e4,e7,a1,a3,ed]
 ·rw[if_neg c];rcases hcase with q|⟨q,q2⟩
  ·have q1:6≤s.length:=by omega
   have q3:(6:Int)<(s.length:Int):=by omega
   simp (maxSteps:=9^9) [bl,cv.m,cv.b,aa,c,q1,q3,←ht,a1,a0]
  ·subst q2;have q3:¬(6:Int)<(t.length:Int):=by omega
   simp (maxSteps:=9^9) [bl,cv.m,cv.b,aa,c,q3,a1,a0]
def kU(l:List bz)(g:Int):Option Nat:=dW (sm (fun b:bz=>decide (b.gid=g)) l) l.length
def jS(l:List bz)(g:Int):Option bz:=l.find? fun b=>decide (b.gid=g)
theorem iB{l:List bz}{g:Int}{k:Nat}(h:kU l g=some k):∃hk:k<l.length,jS l g=some l[k]:=by
 obtain⟨h1,h2,h3⟩:=kV h;refine⟨h1, ?_⟩;unfold jS;rw[List.find?_eq_some_iff_getElem];rw[jh _ _ _ h1] at h2;refine⟨h2,k,h1,rfl,fun j hj=> ?_⟩;have:=h3 j hj;rw[jh _ _ _ (by omega)] at this;simp only[this,Bool.not_false]
theorem oe{l:List bz}{g:Int}(h:kU l g=none):jS l g=none:=by
 unfold jS;rw[List.find?_eq_none];intro b hb;obtain⟨j,hj,rfl⟩:=bV hb;have:=kW h j hj;rw[jh _ _ _ hj] at this;simp only[this];decide
theorem eC.ar(h:eC.k M)(b:bz)(g:Int):run M 477 [.a (af b),.c (.vp [I g] 0)] []=some (.c (.bool (decide (b.gid=g))),[]):=by
 refine aB (b:=eC.m) h ⟨0, ?_⟩;simp (maxSteps:=9^9) [bl,eC.m,eC.b,aa,af]
theorem eD.ar(h:eD.k M)(l:List bz)(g:Int)(hl:l.length≤1048576):run M 476 [.c (boxes l),.c (I g)] []=some (.c (I (dy (kU l g))),[]):=by
 have h1:=ay.gen h.2.1 (fun b=>eC.ar h.2.2 b g) l hl;refine aB (b:=eD.m) h.1 ⟨0, ?_⟩;unfold kU;simp only[boxes] at h1 ⊢;generalize l.map af=r at*;simp (maxSteps:=9^9) [bl,eD.m,eD.b,aa,h1]
theorem eZ.ar(h:eZ.k M)(b:bz)(G:List Int)(hG:G.length≤4194304):run M 479 [.a (af b),.c (.vp [ints G] 0)] []=some (.c (.bool (decide (b.gid∈G))),[]):=by
 have h1:=aH.ar h.2 G b.gid (by omega);refine aB (b:=eZ.m) h.1 ⟨0, ?_⟩;simp only[ints] at h1 ⊢;generalize az G=g at*;simp (maxSteps:=9^9) [bl,eZ.m,eZ.b,aa,h1,af]
theorem eX.ar(h:eX.k M)(y x:bz):run M 483 [.a (af y),.c (.vp (af x) 0)] []=some (.c (.bool (decide (y.name=x.name))),[]):=by
 refine aB (b:=eX.m) h ⟨0, ?_⟩;simp (maxSteps:=9^9) [bl,eX.m,eX.b,aa,af]
theorem bd.ar(h:bd.k M){f:Nat}{cs:List T}{p:bz→Bool}(hf:∀m,run M f [.a (af m),.c (.vp cs 0)] []=some (.c (.bool (p m)),[]))(l:List bz)(hl:l.length≤1048576):
  run M 482 [.c (boxes l),.c (.fn f [.vp cs 0])] []=some (.c (.bool (l.any p)),[]):=by
 have h1:=ay.gen h.2 hf l hl;have e:(decide ((0:Int)≤dy (dW (sm p l) l.length)))=l.any p:=by
  cases q:dW (sm p l) l.length with
  |none=>
   have hn:=kW q;have:l.any p=false:=by
    rw[List.any_eq_false];intro b hb;obtain⟨j,hj,rfl⟩:=bV hb;have:=hn j hj;rw[jh _ _ _ hj] at this;simp[this]
   rw[this];decide
  |some k=>
   obtain⟨h1,h2,_⟩:=kV q;rw[jh _ _ _ h1] at h2;have:l.any p=true:=List.any_eq_true.2 ⟨_,ax h1,h2⟩;rw[this];exact decide_eq_true (Int.natCast_nonneg k)
 refine aB (b:=bd.m) h.1 ⟨0, ?_⟩;rw[←e];simp only[boxes] at h1 ⊢;generalize l.map af=r at*;simp (maxSteps:=9^9) [bl,bd.m,bd.b,aa,h1]
def JH(l:List bz)(g:Int)(i:Nat)(x:Nat):St:={t:=[(0,.c (boxes l)),(1,.c (I g)),(5,.c (I i))],o:=[],n:=x}
theorem fH.ar(h:fH.k M)(l:List bz)(g:Int)(hl:l.length≤1048576):run M 474 [.c (boxes l),.c (I g)] []=some (.c (I (dy (kU l g))),[]):=by
 refine aB (b:=fH.m) h ⟨l.length+1, ?_⟩;obtain⟨g',hr⟩:=lT (f:=ct (run M) (l.length+1) fH.l0) l.length (sm (fun b:bz=>decide (b.gid=g)) l) (JH l g) jl oB
  (fun i hi x c=>by
   rw[jh _ _ _ hi] at c;simp only[decide_eq_false_iff_not] at c;have e5:=cA (i:=i) (by omega);simp[JH,fH.l0,hi,c,af,e5])
  (fun i hi x c=>by
   rw[jh _ _ _ hi] at c;simp only[decide_eq_true_eq] at c;simp[JH,fH.l0,hi,c,af,jl];exact⟨⟨[],[],_⟩,rfl⟩)
  (fun x=>by simp[JH,fH.l0,jl])
 unfold kU;cases hm:dW (sm (fun b:bz=>decide (b.gid=g)) l) l.length with
 |none=>
  simp[JH,hm,jl] at hr;simp[bl,fH.m,fH.b,aa,hr,dy]
 |some k=>
  simp[JH,hm,jl] at hr;simp[bl,fH.m,fH.b,aa,hr,dy]
abbrev iw(R:List (List T))(i:Nat)(h:Int):Nat×Ob:=(0,⟨0,3,true,true,[[.sl false 1 R,I i,I h]]⟩)
def Bytes(R:List (List T)):Prop:=R.length≤1048576∧∀(i:Nat) (r:List T),R[i]? =some r→∃n:Int,r=[.int .u8 n]
theorem Ch(x:Int):∃n:Nat,n<256∧sP .i64 x 255=(n:Int):=by
 rw[uU];refine⟨(x%((2^IntKind.i64.bits:Nat):Int)).toNat&&&255, ?_, ?_⟩
 ·have:(x%((2^IntKind.i64.bits:Nat):Int)).toNat&&&255≤255:=Nat.and_le_right;omega
 ·have h:(x%((2^IntKind.i64.bits:Nat):Int)).toNat&&&255≤255:=Nat.and_le_right;have e:((255:Int)%((2^IntKind.i64.bits:Nat):Int)).toNat=255:=by decide
  rw[e];exact wrap_i64 (by omega) (by omega)
theorem fu.ar(h:fu.k M){R:List (List T)}(hR:Bytes R)(i:Nat)(q:Int)(hi:i≤R.length):
  ∃(x i':Nat) (q':Int),x<256∧i'≤R.length∧run M 131 [.c (.ptr 0 0 0 0)] [iw R i q]=some (.c (I x),[iw R i' q']):=by
 obtain⟨hl,hb⟩:=hR;obtain⟨q1,hq1⟩:∃q1,IntKind.i64.wrap (IntKind.i64.wrap (q*6364136223846793005)+1442695040888963407)=q1:=⟨_,rfl⟩
 obtain⟨x,hx,e1⟩:=Ch (yY .i64 (q1.fdiv ((2:Int)^min 33 IntKind.i64.bits)) (q1.fdiv ((2:Int)^min 45 IntKind.i64.bits)));by_cases hlt:i<R.length
 ·obtain⟨n,hn⟩:=hb i R[i] (cB hlt);obtain⟨y,hy,e2⟩:=Ch (IntKind.i64.wrap (x+IntKind.i64.wrap n));refine⟨y,i+1,q1,hy,by omega, ?_⟩;refine aB (b:=fu.m) h ⟨0, ?_⟩;have e3:=cA (i:=i) (by omega);simp (maxSteps:=9^9) [bl,fu.m,fu.b,aa,setAt,hq1,e1,e2,e3,hlt,hn]
 ·refine⟨x,i,q1,hx,hi, ?_⟩;refine aB (b:=fu.m) h ⟨0, ?_⟩;simp (maxSteps:=9^9) [bl,fu.m,fu.b,aa,setAt,hq1,e1,hlt]
theorem u7(x n:Nat)(hn:0<n):∃y:Nat,y<n∧((x:Int).tmod (n:Int))=(y:Int):=⟨x%n,Nat.mod_lt _ hn,by rw[Int.tmod_eq_emod_of_nonneg (by omega)];rfl⟩
theorem bD.ar(h:bD.k M){R:List (List T)}(hR:Bytes R)(i:Nat)(q:Int)(hi:i≤R.length)(n:Nat)(hn:0<n)(hn2:n≤1000000000):
  ∃(x i':Nat) (q':Int),x<n∧i'≤R.length∧run M 125 [.c (.ptr 0 0 0 0),.c (I n)] [iw R i q]=some (.c (I x),[iw R i' q']):=by
 obtain⟨h0,k1⟩:=h;have n0:¬(n:Int)≤0:=by omega
 have n1:¬n=0:=by omega
 obtain⟨x1,i1,q1,hx1,hi1,h1⟩:=fu.ar k1 hR i q hi;by_cases hs:n≤256
 ·have hs2:(n:Int)≤256:=by omega
  obtain⟨y,hy,e⟩:=u7 x1 n hn;refine⟨y,i1,q1,hy,hi1, ?_⟩;refine aB (b:=bD.m) h0 ⟨0, ?_⟩;simp (maxSteps:=9^9) [bl,bD.m,bD.b,aa,h1,n1,hs2,e]
 ·have hs2:¬(n:Int)≤256:=by omega
  obtain⟨x2,i2,q2,hx2,hi2,h2⟩:=fu.ar k1 hR i1 q1 hi1;obtain⟨x3,i3,q3,hx3,hi3,h3⟩:=fu.ar k1 hR i2 q2 hi2;obtain⟨x4,i4,q4,hx4,hi4,h4⟩:=fu.ar k1 hR i3 q3 hi3;have w1:IntKind.i64.wrap ((x1:Int)*16777216)=((x1*16777216:Nat):Int):=wrap_i64 (by omega) (by omega);have w2:IntKind.i64.wrap ((x2:Int)*65536)=((x2*65536:Nat):Int):=wrap_i64 (by omega) (by omega);have w3:IntKind.i64.wrap ((x3:Int)*256)=((x3*256:Nat):Int):=wrap_i64 (by omega) (by omega);obtain⟨y1,hy1⟩:∃y1,x1*16777216=y1:=⟨_,rfl⟩
  obtain⟨y2,hy2⟩:∃y2,x2*65536=y2:=⟨_,rfl⟩
  obtain⟨y3,hy3⟩:∃y3,x3*256=y3:=⟨_,rfl⟩
  rw[hy1] at w1;rw[hy2] at w2;rw[hy3] at w3;have w4:IntKind.i64.wrap ((y1:Int)+y2)=((y1+y2:Nat):Int):=wrap_i64 (by omega) (by omega);obtain⟨z1,hz1⟩:∃z1,y1+y2=z1:=⟨_,rfl⟩
  rw[hz1] at w4;have w5:IntKind.i64.wrap ((z1:Int)+y3)=((z1+y3:Nat):Int):=wrap_i64 (by omega) (by omega);obtain⟨z2,hz2⟩:∃z2,z1+y3=z2:=⟨_,rfl⟩
  rw[hz2] at w5;have w6:IntKind.i64.wrap ((z2:Int)+x4)=((z2+x4:Nat):Int):=wrap_i64 (by omega) (by omega);obtain⟨z3,hz3⟩:∃z3,z2+x4=z3:=⟨_,rfl⟩
  rw[hz3] at w6;obtain⟨y,hy,e⟩:=u7 z3 n hn;refine⟨y,i4,q4,hy,hi4, ?_⟩;refine aB (b:=bD.m) h0 ⟨0, ?_⟩;simp (maxSteps:=9^9) [bl,bD.m,bD.b,aa,h1,h2,h3,h4,w1,w2,w3,w4,w5,w6,n1,hs2,e]
theorem dS.ar(h:dS.k M){R:List (List T)}(hR:Bytes R)(i:Nat)(q:Int)(hi:i≤R.length)(ss:List (List UInt8))(h0:0<ss.length)(hn:ss.length≤256):
  ∃(s:List UInt8) (i':Nat) (q':Int),s∈ss∧i'≤R.length∧run M 185 [.c (.ptr 0 0 0 0),.c (.sl false 1 (ss.map fun s=>[S s]))] [iw R i q]=some (.c (S s),[iw R i' q']):=by
 obtain⟨hm,k1⟩:=h;obtain⟨x,i1,q1,hx,hi1,h1⟩:=bD.ar k1 hR i q hi ss.length h0 (by omega);refine⟨ss[x],i1,q1,ax hx,hi1, ?_⟩;refine aB (b:=dS.m) hm ⟨0, ?_⟩;simp (maxSteps:=9^9) [bl,dS.m,dS.b,aa,h1,hx]
def Av:List (List UInt8):=[[104,101,108,108,111],[104,105,10],[],[116,101,120,116,32,111,102,32,105,116],[0,255],[97,32,98]]
theorem fU.ar(h:fU.k M){R:List (List T)}(hR:Bytes R)(i:Nat)(q:Int)(hi:i≤R.length):
  ∃(s:List UInt8) (i':Nat) (q':Int),s.length≤60∧i'≤R.length∧run M 174 [.c (.ptr 0 0 0 0)] [iw R i q]=some (.c (S s),[iw R i' q']):=by
 obtain⟨hm,k1⟩:=h;obtain⟨s,i1,q1,hs,hi1,h1⟩:=dS.ar k1 hR i q hi Av (by decide) (by decide);refine⟨s,i1,q1, ?_,hi1, ?_⟩
 ·have:∀s∈Av,s.length≤60:=by decide
  exact this s hs
 ·refine aB (b:=fU.m) hm ⟨0, ?_⟩;simp only[Av,bE,bJ] at h1 ⊢;simp (maxSteps:=9^9) [bl,fU.m,fU.b,aa,h1]
def Be(R:List (List T))(i:Nat):Int:=match R[i]? with
 |some [.int _ n]=>IntKind.i64.wrap n
 |_=>0
def Hd(R:List (List T)):Nat→Int
 |0=>77201+R.length
 |i+1=>sP .i64 (IntKind.i64.wrap (IntKind.i64.wrap (IntKind.i64.wrap (Hd R i*131)+Be R i)+7)) 1073741823
def BW(R:List (List T)):Nat:=min R.length 4000
def K6(R:List (List T))(i:Nat)(x:Nat):St:={t:=[(0,.c (.sl false 1 R)),(3,.c (I (Hd R i))),(4,.c (I i))],o:=[],n:=x}
def LR(R:List (List T))(x:Nat):St:={t:=[(0,.c (.sl false 1 R)),(3,.c (I (Hd R (BW R)))),(4,.c (I (BW R))),(15,.c (.bool false))],o:=[],n:=x}
theorem fK.ar(h:fK.k M){R:List (List T)}(hR:Bytes R):
  ∃q:Int,run M 124 [.c (.sl false 1 R)] []=some (.c (.vp [.sl false 1 R,I 0,I q] 0),[]):=by
 refine⟨Hd R (BW R),aB (b:=fK.m) h ⟨BW R+1, ?_⟩⟩;have hl:=hR.1;obtain⟨g,hr⟩:=ju (f:=ct (run M) (BW R+1) fK.l0) (BW R) (K6 R) 0 (LR R)
  (fun i hi x=>by
   have h1:i<R.length:=by unfold BW at hi;omega
   have h2:i<4000:=by unfold BW at hi;omega
   have h3:(i:Int)<4000:=by omega
   obtain⟨n,hn⟩:=hR.2 i R[i] (cB h1);have hb:Be R i=IntKind.i64.wrap n:=by simp[Be,h1,hn]
   have e3:=cA (i:=i) (by omega);simp only[K6,Hd,hb];generalize Hd R i=q;simp (maxSteps:=9^9) [fK.l0,h1,h3,hn,e3])
  (fun x=>by
   simp only[K6,LR];generalize Hd R (BW R)=q;by_cases c:R.length<4000
   ·have e:BW R=R.length:=by unfold BW;omega
    rw[e];simp (maxSteps:=9^9) [fK.l0]
   ·have e:BW R=4000:=by unfold BW;omega
    rw[e];simp only[bR];by_cases c2:4000<R.length
    ·have c3:(4000:Int)<(R.length:Int):=by omega
     simp (maxSteps:=9^9) [fK.l0,c3]
    ·have c3:¬(4000:Int)<(R.length:Int):=by omega
     simp (maxSteps:=9^9) [fK.l0,c3])
 simp only[K6,LR,Hd] at hr;generalize Hd R (BW R)=q at*;simp at hr;have e:IntKind.i64.wrap (77201+(R.length:Int))=77201+(R.length:Int):=wrap_i64 (by omega) (by omega);simp (maxSteps:=9^9) [bl,fK.m,fK.b,aa,setAt,hr,e]
structure Mk where
 i:Nat
 rows:List (List T)
 v:Nat
 vc:Nat
 ic:Nat
 q:Int
 n:Nat
theorem Mk.ex{p:Mk→Prop}:(∃s,p s)↔∃i rows v vc ic q n,p ⟨i,rows,v,vc,ic,q,n⟩:=⟨fun⟨⟨i,rows,v,vc,ic,q,n⟩,h⟩=>⟨i,rows,v,vc,ic,q,n,h⟩,fun⟨i,rows,v,vc,ic,q,n,h⟩=>⟨⟨i,rows,v,vc,ic,q,n⟩,h⟩⟩
theorem cL.ar(h:cL.k M)(l:List mi)(n t w:Int)(hl:l.length≤1048576):run M 182 [.c (iZ l),.c (I n),.a [I t,I w]] []=some (.c (.sl true 3 ((lL l n t w).map aR)),[]):=by
 obtain⟨h0,k1,k2,k3,k4⟩:=h;have h1:=fw.ar k1 n;have h2:=dw.ar k2 l hl;have h3:=fZ.ar k3 l hl;refine aB (b:=cL.m) h0 ⟨4, ?_⟩;have e7:(l.map aR).length=l.length:=by simp
 have e8:(l.map aR).all (fun r=>r.all T.scalar)=true:=by simp[T.scalar]
 unfold lL;simp only[iZ] at*;cases c1:lH l
 ·simp only[au,false_and,if_false];generalize l.map aR=r at*;simp (maxSteps:=9^9) [bl,cL.m,cL.b,aa,h2,h3,c1,e7,e8,ab]
 cases c2:jE 0 n 7
 ·simp only[au,and_false,if_false];generalize l.map aR=r at*;simp (maxSteps:=9^9) [bl,cL.m,cL.b,aa,h1,h2,h3,c1,c2,e7,e8,ab]
 have hl3:=(pQ c1).1;obtain⟨g,hr⟩:=ju (f:=ct (run M) 4 cL.l0) l.length (Jz l n t w) 0 (Lw l n t w)
  (fun i hi x=>cL.Is k4 l n t w 4 i hl3 hi x)
  (fun x=>by
   obtain⟨v,u,x⟩:=x;simp only[Jz,Lw,aE];generalize (jA l n t w l.length).map aR=rr;simp (maxSteps:=9^9) [cL.l0])
 have e9:((jA l n t w l.length).map aR).length=l.length:=by simp[qF]
 simp only[true_and,if_true];rw[←xz];simp only[Jz,Lw,vo] at hr;generalize (jA l n t w l.length).map aR=rr at*;generalize l.map aR=r at*;simp[hl3] at hr;simp (maxSteps:=9^9) [bl,cL.m,cL.b,aa,hr,h1,h2,h3,c1,c2,e7,e8,e9,hl3,ab]
def Jy(l:List mi)(n t w:Int)(i:Nat)(x:Nat×Nat×Nat):St:={t:=[(1,.c (I n)),(5,.c (.ptr 5 x.1 0 0)),(7,.c (.row 11100 x.2.1 0 l.length)),(8,.c (I i))],o:=[(5,⟨x.1,2,true,true,[[I t,I w]]⟩),(11100,⟨x.2.1,3,true,false,(jA l n t w i).map aR⟩)],n:=x.2.2}
def Lv(l:List mi)(n t w:Int)(x:Nat×Nat×Nat):St:={t:=[(1,.c (I n)),(5,.c (.ptr 5 x.1 0 0)),(7,.c (.row 11100 x.2.1 0 l.length)),(8,.c (I l.length)),(24,.c (.bool false))],o:=[(5,⟨x.1,2,true,true,[[I t,I w]]⟩),(11100,⟨x.2.1,3,true,false,(jA l n t w l.length).map aR⟩)],n:=x.2.2}
theorem cK.Is(k:iE.k M)(l:List mi)(n t w:Int)(K i:Nat)(hn:0≤n)(hl:l.length=3)(hi:i<l.length)(x:Nat×Nat×Nat):
  ∃y,ct (run M) K cK.l0 (Jy l n t w i x)=some (.normal,Jy l n t w (i+1) y):=by
 obtain⟨v,u,x⟩:=x;have e5:=cA (i:=i) (by omega);have h1:=iE.ar k l[i] (mH n i) t w;have hlen:((jA l n t w i).map aR).length=l.length:=by simp[qF]
 have hi2:i<((jA l n t w i).map aR).length:=by omega
 have hat:((jA l n t w i).map aR)[i]'hi2=aR l[i]:=by rw[fA,zc]
 have hset:(jA l n t w (i+1)).map aR=((jA l n t w i).map aR).set i (aR (oF n t w i l[i])):=by rw[vq _ _ _ _ _ hi,gZ]
 have hmin:Min.min i 64=i:=by omega
 have hu:IntKind.u64.wrap (i:Int)=i:=by unfold IntKind.wrap;simp[IntKind.bits,IntKind.signed];omega
 have hdiv:0≤n.fdiv ((2^i:Nat):Int):=Int.fdiv_nonneg hn (Int.natCast_nonneg _);have hbit:(n.fdiv ((2^i:Nat):Int)).tmod 2=mH n i:=by
  unfold mH;exact Int.tmod_eq_emod_of_nonneg hdiv
 have hbit2:(n.fdiv (2^i)).tmod 2=mH n i:=by rw[←hbit];norm_cast
 have hii:(i:Int)<3:=by omega
 have h3:i<3:=by omega
 have hng:¬(i:Int)<0:=by omega
 simp only[Jy,hset,oF,aE];generalize (jA l n t w i).map aR=rr at*;simp only[aR] at h1 hat;by_cases c:l[i].val=mH n i
 ·rw[if_pos c];have hself:rr.set i [I l[i].val,I l[i].time,I l[i].eE]=rr:=by
   apply List.ext_getElem?;intro j;rw[List.getElem?_set];split
   ·rename_i hj;subst hj;simp[hi2,hat]
   ·rfl
  rw[hself];simp (maxSteps:=9^9) [cK.l0,aa,hl,hlen,hat,e5,hu,hmin,hbit2,hii,h3,hng,c,IntKind.bits]
 ·rw[if_neg c];simp (maxSteps:=9^9) [cK.l0,aa,setAt,hl,hlen,hat,e5,hu,hmin,hbit2,hii,h3,hng,c,h1,aR,IntKind.bits]
theorem cK.ar(h:cK.k M)(l:List mi)(n t w:Int)(hl:l.length≤1048576):run M 184 [.c (iZ l),.c (I n),.a [I t,I w]] []=some (.c (.sl true 3 ((lL l n t w).map aR)),[]):=by
 obtain⟨h0,k1,k3,k2,k4⟩:=h;have h1:=bS.jE k1 n 0 7;have h2:=du.ar k2 l hl;have h3:=gF.ar k3 l hl;refine aB (b:=cK.m) h0 ⟨4, ?_⟩;have e7:(l.map aR).length=l.length:=by simp
 have e8:(l.map aR).all (fun r=>r.all T.scalar)=true:=by simp[T.scalar]
 unfold lL;simp only[iZ] at*;cases c1:lH l
 ·simp only[au,false_and,if_false];generalize l.map aR=r at*;simp (maxSteps:=9^9) [bl,cK.m,cK.b,aa,h2,h3,c1,e7,e8,ab]
 cases c2:jE 0 n 7
 ·simp only[au,and_false,if_false];generalize l.map aR=r at*;simp (maxSteps:=9^9) [bl,cK.m,cK.b,aa,h1,h2,h3,c1,c2,e7,e8,ab]
 have hl3:=(pQ c1).1;obtain⟨g,hr⟩:=ju (f:=ct (run M) 4 cK.l0) l.length (Jy l n t w) 0 (Lv l n t w)
  (fun i hi x=>cK.Is k4 l n t w 4 i (kC.1 c2).1 hl3 hi x)
  (fun x=>by
   obtain⟨v,u,x⟩:=x;simp only[Jy,Lv,aE];generalize (jA l n t w l.length).map aR=rr;simp (maxSteps:=9^9) [cK.l0,aa])
 have e9:((jA l n t w l.length).map aR).length=l.length:=by simp[qF]
 simp only[true_and,if_true];rw[←xz];simp only[Jy,Lv,vo] at hr;generalize (jA l n t w l.length).map aR=rr at*;generalize l.map aR=r at*;simp[hl3] at hr;simp (maxSteps:=9^9) [bl,cK.m,cK.b,aa,hr,h1,h2,h3,c1,c2,e7,e8,e9,hl3,ab]
def jo(b:bz)(g n t w:Int):bz×Bool:=match fD b.ae g with
 |none=>(b,false)
 |some k=>match b.ae[k]? with
  |none=>(b,false)
  |some m=>if fz b=true∧jE 0 n 7=true∧j2 t w=true then({b with ae:=b.ae.set k {m with flags:=lL m.flags n t w}},true) else(b,false)
theorem sr{l:List bo}{g:Int}{k:Nat}(h:fD l g=some k):k<l.length:=tH l g _ _ _ h
theorem dD.ar(h:dD.k M)(b:bz)(hb:gT b)(g n t w:Int):run M 83 [.a (af b),.c (I g),.c (I n),.a [I t,I w]] []=some (.ll [.a (cd (jo b g n t w).1),.c (.bool (jo b g n t w).2)],[]):=by
 obtain⟨h0,k1,k2,k3,k4,k5,k6⟩:=h;have h1:=cE.ar k1 b g hb.m;have h2:=bG.ar k2 b hb.ok.1 hb.ok.2.1 hb.ok.2.2.1 hb.ok.2.2.2;have h3:=fw.ar k3 n;have h4:=cq.ar k4 b hb;have h5:=fX.ar k5 t w;refine aB (b:=dD.m) h0 ⟨0, ?_⟩;have e7:(b.ae.map ah).length=b.ae.length:=by simp
 have e8:=aM b.gone;unfold jo;cases hk:fD b.ae g with
 |none=>
  rw[hk] at h1;simp only[dy] at h1;simp only[af,cd,ae,ints] at*;generalize fz b=ok at*;generalize b.ae.map ah=rm at*;generalize az b.gone=rg at*;cases ok<;>simp (maxSteps:=9^9) [bl,dD.m,dD.b,aa,setAt,h1,h2,h4,e7,e8,ab]
 |some k=>
  have hlt:=sr hk;rw[hk] at h1;simp only[dy] at h1;have h6:=cL.ar k6 b.ae[k].flags n t w (hb.f _ (ax hlt));have hat:(b.ae.map ah)[k]'(by rw[e7];exact hlt)=[I b.ae[k].gid,I b.ae[k].uid,iZ b.ae[k].flags,S b.ae[k].text]:=by rw[fA]
  have hset:(b.ae.set k {b.ae[k] with flags:=lL b.ae[k].flags n t w}).map ah=(b.ae.map ah).set k [I b.ae[k].gid,I b.ae[k].uid,.sl false 3 ((lL b.ae[k].flags n t w).map aR),S b.ae[k].text]:=by rw[gZ]
  have hng:¬(k:Int)<0:=by omega
  simp only[cB hlt];cases c1:fz b
  ·rw[c1] at h2;simp only[au,false_and,if_false];simp only[af,cd,ae,ints] at*;generalize b.ae.map ah=rm at*;generalize az b.gone=rg at*;simp (maxSteps:=9^9) [bl,dD.m,dD.b,aa,setAt,h1,h2,h4,e7,e8,ab]
  rw[c1] at h2;cases c2:jE 0 n 7
  ·rw[c2] at h3;simp only[au,false_and,and_false,if_false];simp only[af,cd,ae,ints] at*;generalize b.ae.map ah=rm at*;generalize az b.gone=rg at*;simp (maxSteps:=9^9) [bl,dD.m,dD.b,aa,setAt,h1,h2,h3,h4,e7,e8,hng,ab]
  rw[c2] at h3;cases c3:j2 t w
  ·rw[c3] at h5;simp only[au,and_false,if_false];simp only[af,cd,ae,ints] at*;generalize b.ae.map ah=rm at*;generalize az b.gone=rg at*;simp (maxSteps:=9^9) [bl,dD.m,dD.b,aa,setAt,h1,h2,h3,h4,h5,e7,e8,hng,ab]
  rw[c3] at h5;simp only[and_self,if_true];simp only[af,cd,ae,ints,hset] at*;generalize b.ae.map ah=rm at*;generalize az b.gone=rg at*;simp (maxSteps:=9^9) [bl,dD.m,dD.b,aa,setAt,h1,h2,h3,h4,h5,h6,e7,e8,hng,hlt,hat,ab]
theorem dB.ar(h:dB.k M)(b:bz)(hb:gT b)(g n t w:Int):run M 84 [.a (af b),.c (I g),.c (I n),.a [I t,I w]] []=some (.ll [.a (cd (jo b g n t w).1),.c (.bool (jo b g n t w).2)],[]):=by
 obtain⟨h0,k2,k1,k3,k4,k5,k6⟩:=h;have h1:=bM.ar k1 b g hb.m;have h2:=bB.ar k2 b hb.ok.1 hb.ok.2.1 hb.ok.2.2.1 hb.ok.2.2.2;have h3:=bS.jE k3 n 0 7;have h4:=b6.ar k4 b hb;have h5:=fV.ar k5 t w;refine aB (b:=dB.m) h0 ⟨0, ?_⟩;have e7:(b.ae.map ah).length=b.ae.length:=by simp
 have e8:=aM b.gone;unfold jo;cases hk:fD b.ae g with
 |none=>
  rw[hk] at h1;simp only[dy] at h1;simp only[af,cd,ae,ints] at*;generalize fz b=ok at*;generalize b.ae.map ah=rm at*;generalize az b.gone=rg at*;cases ok<;>simp (maxSteps:=9^9) [bl,dB.m,dB.b,aa,setAt,h1,h2,h4,e7,e8,ab]
 |some k=>
  have hlt:=sr hk;rw[hk] at h1;simp only[dy] at h1;have h6:=cK.ar k6 b.ae[k].flags n t w (hb.f _ (ax hlt));have hat:(b.ae.map ah)[k]'(by rw[e7];exact hlt)=[I b.ae[k].gid,I b.ae[k].uid,iZ b.ae[k].flags,S b.ae[k].text]:=by rw[fA]
  have hset:(b.ae.set k {b.ae[k] with flags:=lL b.ae[k].flags n t w}).map ah=(b.ae.map ah).set k [I b.ae[k].gid,I b.ae[k].uid,.sl false 3 ((lL b.ae[k].flags n t w).map aR),S b.ae[k].text]:=by rw[gZ]
  have hng:¬(k:Int)<0:=by omega
  simp only[cB hlt];cases c1:fz b
  ·rw[c1] at h2;simp only[au,false_and,if_false];simp only[af,cd,ae,ints] at*;generalize b.ae.map ah=rm at*;generalize az b.gone=rg at*;simp (maxSteps:=9^9) [bl,dB.m,dB.b,aa,setAt,h1,h2,h4,e7,e8,ab]
  rw[c1] at h2;cases c2:jE 0 n 7
  ·rw[c2] at h3;simp only[au,false_and,and_false,if_false];simp only[af,cd,ae,ints] at*;generalize b.ae.map ah=rm at*;generalize az b.gone=rg at*;simp (maxSteps:=9^9) [bl,dB.m,dB.b,aa,setAt,h1,h2,h3,h4,e7,e8,hng,ab]
  rw[c2] at h3;cases c3:j2 t w
  ·rw[c3] at h5;simp only[au,and_false,if_false];simp only[af,cd,ae,ints] at*;generalize b.ae.map ah=rm at*;generalize az b.gone=rg at*;simp (maxSteps:=9^9) [bl,dB.m,dB.b,aa,setAt,h1,h2,h3,h4,h5,e7,e8,hng,ab]
  rw[c3] at h5;simp only[and_self,if_true];simp only[af,cd,ae,ints,hset] at*;generalize b.ae.map ah=rm at*;generalize az b.gone=rg at*;simp (maxSteps:=9^9) [bl,dB.m,dB.b,aa,setAt,h1,h2,h3,h4,h5,h6,e7,e8,hng,hlt,hat,ab]
def j5(b:bz)(g f:Int)(text:List UInt8)(t w:Int):bz×Bool:=
 if fz b=true∧fD b.ae g=none∧¬g∈b.gone∧jE 0 f 7=true∧fz {b with ae:=b.ae++[⟨g,b.next,jc f t w,text⟩],next:=b.next+1}=true
 then({b with ae:=b.ae++[⟨g,b.next,jc f t w,text⟩],next:=b.next+1},true) else(b,false)
theorem dV.ar(h:dV.k M)(b:bz)(hb:gT b)(g f:Int)(text:List UInt8)(t w:Int):
  run M 70 [.a (af b),.c (I g),.c (I f),.c (S text),.a [I t,I w]] []=some (.ll [.a (cd (j5 b g f text t w).1),.c (.bool (j5 b g f text t w).2)],[]):=by
 obtain⟨h0,k1,k2,k3,k4,k5,k6⟩:=h;have h1:=cE.ar k1 b g hb.m;have h2:=bG.ar k2 b hb.ok.1 hb.ok.2.1 hb.ok.2.2.1 hb.ok.2.2.2;have h3:=fw.ar k3 f;have h4:=cq.ar k4 b hb;have h5:=aH.ar k5 b.gone g (by have:=hb.g;omega);have h6:=fN.ar k6 f t w;refine aB (b:=dV.m) h0 ⟨0, ?_⟩;have e7:(b.ae.map ah).length=b.ae.length:=by simp
 have e8:=aM b.gone;unfold j5;cases c1:fz b
 ·rw[c1] at h2;simp only[au,false_and,if_false];simp only[af,cd,ae,ints] at*;generalize b.ae.map ah=rm at*;generalize az b.gone=rg at*;simp (maxSteps:=9^9) [bl,dV.m,dV.b,aa,setAt,h2,h4,e7,e8,ab]
 rw[c1] at h2;cases hk:fD b.ae g with
 |some k=>
  have hge:(0:Int)≤k:=by omega
  rw[hk] at h1;simp only[dy] at h1;simp only[reduceCtorEq,false_and,and_false,if_false];simp only[af,cd,ae,ints] at*;generalize b.ae.map ah=rm at*;generalize az b.gone=rg at*;simp (maxSteps:=9^9) [bl,dV.m,dV.b,aa,setAt,h1,h2,h4,e7,e8,hge,ab]
 |none=>
 rw[hk] at h1;simp only[dy] at h1;by_cases c2:g∈b.gone
 ·rw[decide_eq_true c2] at h5;simp only[c2,not_true_eq_false,false_and,and_false,if_false];simp only[af,cd,ae,ints] at*;generalize b.ae.map ah=rm at*;generalize az b.gone=rg at*;simp (maxSteps:=9^9) [bl,dV.m,dV.b,aa,setAt,h1,h2,h4,h5,e7,e8,ab]
 rw[decide_eq_false c2] at h5;cases c3:jE 0 f 7
 ·rw[c3] at h3;simp only[au,false_and,and_false,if_false];simp only[af,cd,ae,ints] at*;generalize b.ae.map ah=rm at*;generalize az b.gone=rg at*;simp (maxSteps:=9^9) [bl,dV.m,dV.b,aa,setAt,h1,h2,h3,h4,h5,e7,e8,ab]
 rw[c3] at h3;have hnx:b.next≤1000000000∧0≤b.next:=by
  have:=(jv c1).2.2.2.2.1;exact⟨this.2,this.1⟩
 have hml:=(jv c1).2.2.2.2.2.1;have e9:IntKind.i64.wrap (b.next+1)=b.next+1:=wrap_i64 (by omega) (by omega);have hout:gT {b with ae:=b.ae++[⟨g,b.next,jc f t w,text⟩],next:=b.next+1}:=by
  refine⟨by simp;omega,hb.g,hb.n,fun m hm=> ?_⟩;rcases List.mem_append.1 hm with hm|hm
  ·exact hb.f m hm
  ·simp only[gu] at hm;subst hm;simp[jc]
 have h7:=bG.ar k2 _ hout.ok.1 hout.ok.2.1 hout.ok.2.2.1 hout.ok.2.2.2;have e10:(b.ae++[(⟨g,b.next,jc f t w,text⟩:bo)]).map ah=b.ae.map ah++[[I g,I b.next,.sl false 3 ((jc f t w).map aR),S text]]:=by simp
 have e11:b.ae.length+1≤4294967296:=by omega
 simp only[af,ae,e10] at h7;simp only[c2,not_false_eq_true,true_and];cases c4:fz {b with ae:=b.ae++[⟨g,b.next,jc f t w,text⟩],next:=b.next+1}
 ·rw[c4] at h7;simp only[au,if_false];simp only[af,cd,ae,ints] at*;generalize (jc f t w).map aR=rf at*;generalize b.ae.map ah=rm at*;generalize az b.gone=rg at*;simp (maxSteps:=9^9) [bl,dV.m,dV.b,aa,setAt,h1,h2,h3,h4,h5,h6,h7,e7,e8,e9,e11,ab]
 ·rw[c4] at h7;simp only[if_true];simp only[af,cd,ae,ints,e10] at*;generalize (jc f t w).map aR=rf at*;generalize b.ae.map ah=rm at*;generalize az b.gone=rg at*;simp (maxSteps:=9^9) [bl,dV.m,dV.b,aa,setAt,h1,h2,h3,h4,h5,h6,h7,e7,e8,e9,e11,ab]
theorem dU.ar(h:dU.k M)(b:bz)(hb:gT b)(g f:Int)(text:List UInt8)(t w:Int):
  run M 81 [.a (af b),.c (I g),.c (I f),.c (S text),.a [I t,I w]] []=some (.ll [.a (cd (j5 b g f text t w).1),.c (.bool (j5 b g f text t w).2)],[]):=by
 obtain⟨h0,k2,k1,k3,k5,k4,k6⟩:=h;have h1:=bM.ar k1 b g hb.m;have h2:=bB.ar k2 b hb.ok.1 hb.ok.2.1 hb.ok.2.2.1 hb.ok.2.2.2;have h3:=bS.jE k3 f 0 7;have h4:=b6.ar k4 b hb;have h5:=bf.ar k5 b.gone g (by have:=hb.g;omega);have h6:=fL.ar k6 f t w;refine aB (b:=dU.m) h0 ⟨0, ?_⟩;have e7:(b.ae.map ah).length=b.ae.length:=by simp
 have e8:=aM b.gone;unfold j5;cases c1:fz b
 ·rw[c1] at h2;simp only[au,false_and,if_false];simp only[af,cd,ae,ints] at*;generalize b.ae.map ah=rm at*;generalize az b.gone=rg at*;simp (maxSteps:=9^9) [bl,dU.m,dU.b,aa,setAt,h2,h4,e7,e8,ab]
 rw[c1] at h2;cases hk:fD b.ae g with
 |some k=>
  have hge:(0:Int)≤k:=by omega
  rw[hk] at h1;simp only[dy] at h1;simp only[reduceCtorEq,false_and,and_false,if_false];simp only[af,cd,ae,ints] at*;generalize b.ae.map ah=rm at*;generalize az b.gone=rg at*;simp (maxSteps:=9^9) [bl,dU.m,dU.b,aa,setAt,h1,h2,h4,e7,e8,hge,ab]
 |none=>
 rw[hk] at h1;simp only[dy] at h1;by_cases c2:g∈b.gone
 ·rw[decide_eq_true c2] at h5;simp only[c2,not_true_eq_false,false_and,and_false,if_false];simp only[af,cd,ae,ints] at*;generalize b.ae.map ah=rm at*;generalize az b.gone=rg at*;simp (maxSteps:=9^9) [bl,dU.m,dU.b,aa,setAt,h1,h2,h4,h5,e7,e8,ab]
 rw[decide_eq_false c2] at h5;cases c3:jE 0 f 7
 ·rw[c3] at h3;simp only[au,false_and,and_false,if_false];simp only[af,cd,ae,ints] at*;generalize b.ae.map ah=rm at*;generalize az b.gone=rg at*;simp (maxSteps:=9^9) [bl,dU.m,dU.b,aa,setAt,h1,h2,h3,h4,h5,e7,e8,ab]
 rw[c3] at h3;have hnx:b.next≤1000000000∧0≤b.next:=by
  have:=(jv c1).2.2.2.2.1;exact⟨this.2,this.1⟩
 have hml:=(jv c1).2.2.2.2.2.1;have e9:IntKind.i64.wrap (b.next+1)=b.next+1:=wrap_i64 (by omega) (by omega);have hout:gT {b with ae:=b.ae++[⟨g,b.next,jc f t w,text⟩],next:=b.next+1}:=by
  refine⟨by simp;omega,hb.g,hb.n,fun m hm=> ?_⟩;rcases List.mem_append.1 hm with hm|hm
  ·exact hb.f m hm
  ·simp only[gu] at hm;subst hm;simp[jc]
 have h7:=bB.ar k2 _ hout.ok.1 hout.ok.2.1 hout.ok.2.2.1 hout.ok.2.2.2;have e10:(b.ae++[(⟨g,b.next,jc f t w,text⟩:bo)]).map ah=b.ae.map ah++[[I g,I b.next,.sl false 3 ((jc f t w).map aR),S text]]:=by simp
 have e11:b.ae.length+1≤4294967296:=by omega
 simp only[af,ae,e10] at h7;simp only[c2,not_false_eq_true,true_and];cases c4:fz {b with ae:=b.ae++[⟨g,b.next,jc f t w,text⟩],next:=b.next+1}
 ·rw[c4] at h7;simp only[au,if_false];simp only[af,cd,ae,ints] at*;generalize (jc f t w).map aR=rf at*;generalize b.ae.map ah=rm at*;generalize az b.gone=rg at*;simp (maxSteps:=9^9) [bl,dU.m,dU.b,aa,setAt,h1,h2,h3,h4,h5,h6,h7,e7,e8,e9,e11,ab]
 ·rw[c4] at h7;simp only[if_true];simp only[af,cd,ae,ints,e10] at*;generalize (jc f t w).map aR=rf at*;generalize b.ae.map ah=rm at*;generalize az b.gone=rg at*;simp (maxSteps:=9^9) [bl,dU.m,dU.b,aa,setAt,h1,h2,h3,h4,h5,h6,h7,e7,e8,e9,e11,ab]
end Mx
namespace Mx
attribute [simp] so
open Go
variable {M:Nat→Option Body}
theorem Ac{l:List Int}{n:Int}(hl:xl l):aQ l [n]=jU l n:=
 yU (mK l [n]) (sC hl) fun z=>by rw[iq,nE];simp;exact or_comm
theorem iR.ar(h:iR.k M)(a:List Int)(n:Int)(ha:a.length≤1048576):run M 163 [.c (ints a),.c (I n)] []=some (.c (.sl true 1 (az (aQ a [n]))),[]):=by
 obtain⟨h0,k1,k2,k3⟩:=h;have h1:=eJ.ar k1 a ha;have hab:(a++[n]).length≤4294967296:=by simp;omega
 have h2:=zh k2 (a++[n]) hab;have hsl:(kN (a++[n])).length=(a++[n]).length:=by simp[kN]
 have h3:=tQ k3 (kN (a++[n])) (by rw[hsl];exact hab);rw[rA] at h3;have hjl:(aQ a [n]).length≤(a++[n]).length:=by
  have:=qO (a++[n]) [];simp only[aQ];simpa using this
 refine aB (b:=iR.m) h0 ⟨0, ?_⟩;rw[hsl] at h3;have e1:az (a++[n])=az a++[[I n]]:=n_ a n;have e2:az (aQ a [n]++List.replicate ((a++[n]).length-(aQ a [n]).length) 0)=az (aQ a [n])++az (List.replicate ((a++[n]).length-(aQ a [n]).length) 0):=by simp[az]
 rw[e1] at h2;rw[e2] at h3;simp only[aF,bP] at h2 h3 hab hjl;have l1:=aM a;have l3:=aM (aQ a [n]);have l4:(az (List.replicate (a.length+1-(aQ a [n]).length) 0)).length=a.length+1-(aQ a [n]).length:=by simp[az]
 have s1:=jR (kN (a++[n]));have s2:=jR (aQ a [n]);have l5:=aM (kN (a++[n]));rw[hsl] at l5;simp only[aF,bP] at l5;simp only[ints] at h1 ⊢;generalize az (List.replicate (a.length+1-(aQ a [n]).length) 0)=rz at*;generalize az (kN (a++[n]))=rs at*;generalize aQ a [n]=j at*;generalize az j=rj at*;have e5:a.length≤4294967296:=by omega
 have e6:j.length≤rj.length+rz.length:=by omega
 generalize az a=ra at*;simp (maxSteps:=9^9) [bl,iR.m,iR.b,aa,h1,h2,h3,hab,l1,l3,l4,l5,s1,s2,ab]
theorem BX{α:Type}(x:α)(q:List α):∃q' y,x::q=q'++[y]∧q'.length=q.length:=by
 refine⟨(x::q).dropLast,(x::q).getLast (by simp),(List.dropLast_concat_getLast (by simp)).symm,by simp⟩
theorem qW(h:a7.k M)(p:List (List T))(x:List T)(q:List (List T))(hl:p.length+(q.length+1)≤1048576):
  run M 162 [.c (.row 0 0 0 (p.length+(q.length+1))),.c (I p.length),.c (I ((p.length:Int)+1))] [(0,⟨0,4,true,false,p++x::q⟩)]=
   some (.c (.row 0 0 0 (p.length+q.length)),[(0,⟨0,4,true,false,p++q++[rv]⟩)]):=by
 refine aB (b:=a7.m) h ⟨0, ?_⟩;obtain⟨q',y,hy,hq'⟩:=BX x q;have g1:(0:Int)≤(p.length:Int)+1:=by omega
 have g2:¬(p.length:Int)=(p.length:Int)+1:=by omega
 have g3:(p++x::q).take p.length=p:=by simp
 have g4:(p++x::q).drop (p.length+1)=q:=by simp
 have g5:(p++x::q).drop (p.length+q.length)=[y]:=by
  rw[hy,←hq',List.drop_append];simp
 have g6:p.length+(q.length+1)-(p.length+1)=q.length:=by omega
 have g7:(p++x::q).length=p.length+(q.length+1):=by simp
 have g8:p.length+(q.length+1)-(p.length+q.length)=1:=by omega
 have g9:p.length+q.length≤p.length+(q.length+1):=by omega
 have g10:p.length+q.length≤4294967296:=by omega
 have g11:¬p.length+q.length=p.length+(q.length+1):=by omega
 have g12:(p++q++[y]).length=p.length+(q.length+1):=by simp
 have g13:(p++q++[y]).take (p.length+q.length)=p++q:=by rw[←aF,List.take_left]
 have g19:(1:Int)≤(q.length:Int)+1:=by omega
 have g20:1≤q.length+1:=by omega
 have g14:(p++q++[y]).drop (p.length+(q.length+1))=[]:=dY (by rw[g12];omega);have g15:p.length+1≤p.length+(q.length+1):=by omega
 have g16:p.length+q.length+1=p.length+(q.length+1):=by omega
 have g17:(0:Int)≤(p.length:Int)+(q.length:Int):=by omega
 have g18:(0:Int)≤(p.length:Int)+((q.length:Int)+1):=by omega
 have g21:p.length+1+q.length≤p.length+(q.length+1):=by omega
 have g22:1+q.length≤q.length+1:=by omega
 generalize hR:p++x::q=R at*;simp only[cP] at g12 g13 g14;by_cases hq0:q=[]
 ·subst hq0;by_cases hz:p.length=0
  ·have hp:p=[]:=aZ hz;subst hp;simp at g1 g2 g3 g4 g5 g6 g7 g8 g9 g10 g11 g12 g13 g14 g15 g16 g17 g18;simp (maxSteps:=9^9) [bl,a7.m,a7.b,aa,g5]
  ·simp at g1 g2 g3 g4 g5 g6 g7 g8 g9 g10 g11 g12 g13 g14 g15 g16 g17 g18;simp (maxSteps:=9^9) [bl,a7.m,a7.b,aa,g1,g2,g3,g5,g7,g10,hz]
 ·have g23:((p.length:Int)+(q.length:Int)).toNat=p.length+q.length:=by omega
  have g24:((p.length:Int)+((q.length:Int)+1)).toNat=p.length+(q.length+1):=by omega
  have g25:max ((p.length:Int)+(q.length:Int)) 0≤(p.length:Int)+((q.length:Int)+1):=by omega
  by_cases hz:p.length=0
  ·have hp:p=[]:=aZ hz;subst hp;simp at g1 g2 g3 g4 g5 g6 g7 g8 g9 g10 g11 g12 g13 g14 g15 g16 g17 g18;simp (maxSteps:=9^9) [bl,a7.m,a7.b,aa,g4,g5,g7,g10,g18,g20,g22,hq0,ab]
  ·simp (maxSteps:=9^9) [bl,a7.m,a7.b,aa,g1,g2,g3,g4,g5,g6,g7,g8,g9,g10,g12,g13,g14,g15,g16,g17,g18,g21,g23,g24,hz,hq0,ab]
end Mx
namespace Mx
open Go
variable {M:Nat→Option Body}
theorem vZ{l:List Int}{most:Int}(h:kS l most=true):xl l:=by
 simp only[kS,al,decide_eq_true_eq,cp,iV] at h;have hn:∀j (hj:j<l.length),∀i (hi:i<j),l[i]'(by omega)<l[j]:=by
  intro j
  induction j with
  |zero=>intro _ i hi;omega
  |succ j ih=>
   intro hj i hi;have:=h.1 (j+1) hj;rw[m_ hj] at this;simp at this;by_cases e:i=j
   ·subst e;exact this.2
   ·exact Int.lt_trans (ih (by omega) i (by omega)) this.2
 exact List.pairwise_iff_getElem.2 fun i j hi hj hij=>hn j hj i hij
theorem wF{b:bz}(h:fz b=true):kS b.gone 40=true:=by
 simp only[fz,al] at h;exact h.1.2
def jH(b:bz)(g:Int):bz×Bool:=match fD b.ae g with
 |none=>(b,false)
 |some k=>if fz b=true∧b.gone.length<40 then({b with ae:=b.ae.take k++b.ae.drop (k+1),gone:=jU b.gone g},true) else(b,false)
theorem s4(h:a7.k M)(r:List (List T))(k:Nat)(hk:k<r.length)(hl:r.length≤1048576):
  run M 162 [.c (.row 0 0 0 r.length),.c (I k),.c (I ((k:Int)+1))] [(0,⟨0,4,true,false,r⟩)]=
   some (.c (.row 0 0 0 (r.length-1)),[(0,⟨0,4,true,false,r.take k++r.drop (k+1)++[rv]⟩)]):=by
 have e:r.take k++r[k]::r.drop (k+1)=r:=by simp
 have:=qW h (r.take k) r[k] (r.drop (k+1)) (by simp;omega);rw[e] at this;have e1:(r.take k).length=k:=by simp;omega
 have e2:(r.drop (k+1)).length=r.length-(k+1):=by simp
 rw[e1,e2] at this;have e3:k+(r.length-(k+1)+1)=r.length:=by omega
 have e4:k+(r.length-(k+1))=r.length-1:=by omega
 rw[e3,e4] at this;exact this
theorem fx.ar(h:fx.k M)(b:bz)(hb:gT b)(g:Int):run M 73 [.a (af b),.c (I g)] []=some (.ll [.a (cd (jH b g).1),.c (.bool (jH b g).2)],[]):=by
 obtain⟨h0,k1,k2,k3,k4,k5⟩:=h;have h1:=cE.ar k1 b g hb.m;have h2:=bG.ar k2 b hb.ok.1 hb.ok.2.1 hb.ok.2.2.1 hb.ok.2.2.2;have h4:=cq.ar k3 b hb;have h5:=iR.ar k5 b.gone g hb.g;refine aB (b:=fx.m) h0 ⟨0, ?_⟩;have e7:(b.ae.map ah).length=b.ae.length:=by simp
 have e8:=aM b.gone;unfold jH;cases hk:fD b.ae g with
 |none=>
  rw[hk] at h1;simp only[dy] at h1;simp only[af,cd,ae,ints] at*;generalize fz b=ok at*;generalize b.ae.map ah=rm at*;generalize az b.gone=rg at*;cases ok<;>simp (maxSteps:=9^9) [bl,fx.m,fx.b,aa,setAt,h1,h2,h4,e7,e8,ab]
 |some k=>
  have hlt:=sr hk;rw[hk] at h1;simp only[dy] at h1;have hng:¬(k:Int)<0:=by omega
  cases c1:fz b
  ·rw[c1] at h2;simp only[au,false_and,if_false];simp only[af,cd,ae,ints] at*;generalize b.ae.map ah=rm at*;generalize az b.gone=rg at*;simp (maxSteps:=9^9) [bl,fx.m,fx.b,aa,setAt,h1,h2,h4,e7,e8,ab]
  rw[c1] at h2;have h40:=(jv c1).2.2.2.2.2.2.1;have hml:=(jv c1).2.2.2.2.2.1;by_cases c2:b.gone.length<40
  ·have n2:¬b.gone.length=40:=by omega
   have n3:¬(b.gone.length:Int)=40:=by omega
   simp only[c2,and_self,if_true];rw[Ac (vZ (wF c1))] at h5;have h6:=s4 k4 (b.ae.map ah) k (by rw[e7];exact hlt) (by rw[e7];exact hb.m);rw[e7] at h6;have e9:=cA (i:=k) (by omega);have e10:(b.ae.take k++b.ae.drop (k+1)).map ah=(b.ae.map ah).take k++(b.ae.map ah).drop (k+1):=by simp
   have e11:((b.ae.map ah).take k++((b.ae.map ah).drop (k+1)++[rv])).take (b.ae.length-1)=(b.ae.map ah).take k++(b.ae.map ah).drop (k+1):=by
    rw[←cP];exact List.take_left' (by simp;omega)
   have e12:=aM (jU b.gone g);have e13:b.ae.length≤min k b.ae.length+(b.ae.length-(k+1)+1)+1:=by omega
   simp only[af,cd,ae,ints,e10] at*;generalize b.ae.map ah=rm at*;generalize az b.gone=rg at*;generalize az (jU b.gone g)=ru at*;simp (maxSteps:=9^9) [bl,fx.m,fx.b,aa,setAt,h1,h2,h4,h5,h6,e7,e8,e9,e11,e12,e13,hng,n3,ab]
  ·have n2:b.gone.length=40:=by omega
   have n3:(b.gone.length:Int)=40:=by omega
   simp only[c2,and_false,if_false];simp only[af,cd,ae,ints] at*;generalize b.ae.map ah=rm at*;generalize az b.gone=rg at*;simp (maxSteps:=9^9) [bl,fx.m,fx.b,aa,setAt,h1,h2,h4,e7,e8,n2,hng,ab]
theorem cZ.ar(h:cZ.k M)(b:bz)(hb:gT b)(g:Int):run M 86 [.a (af b),.c (I g)] []=some (.ll [.a (cd (jH b g).1),.c (.bool (jH b g).2)],[]):=by
 obtain⟨h0,k2,k1,k5,k3⟩:=h;have h1:=bM.ar k1 b g hb.m;have h2:=bB.ar k2 b hb.ok.1 hb.ok.2.1 hb.ok.2.2.1 hb.ok.2.2.2;have h4:=b6.ar k3 b hb;have h5:=bX.ar k5 b.gone g (by have:=hb.g;omega);refine aB (b:=cZ.m) h0 ⟨0, ?_⟩;have e7:(b.ae.map ah).length=b.ae.length:=by simp
 have e8:=aM b.gone;unfold jH;cases hk:fD b.ae g with
 |none=>
  rw[hk] at h1;simp only[dy] at h1;simp only[af,cd,ae,ints] at*;generalize fz b=ok at*;generalize b.ae.map ah=rm at*;generalize az b.gone=rg at*;cases ok<;>simp (maxSteps:=9^9) [bl,cZ.m,cZ.b,aa,setAt,h1,h2,h4,e7,e8,ab]
 |some k=>
  have hlt:=sr hk;rw[hk] at h1;simp only[dy] at h1;have hng:¬(k:Int)<0:=by omega
  cases c1:fz b
  ·rw[c1] at h2;simp only[au,false_and,if_false];simp only[af,cd,ae,ints] at*;generalize b.ae.map ah=rm at*;generalize az b.gone=rg at*;simp (maxSteps:=9^9) [bl,cZ.m,cZ.b,aa,setAt,h1,h2,h4,e7,e8,ab]
  rw[c1] at h2;have h40:=(jv c1).2.2.2.2.2.2.1;have hml:=(jv c1).2.2.2.2.2.1;by_cases c2:b.gone.length<40
  ·have n2:¬40≤b.gone.length:=by omega
   have n3:¬(40:Int)≤(b.gone.length:Int):=by omega
   simp only[c2,and_self,if_true];have e9:=cA (i:=k) (by omega);have e10:(b.ae.take k++b.ae.drop (k+1)).map ah=(b.ae.map ah).take k++(b.ae.map ah).drop (k+1):=by simp
   have e14:min k b.ae.length=k:=by omega
   have e12:=aM (jU b.gone g);have e13:b.ae.length≤min k b.ae.length+(b.ae.length-(k+1)+1)+1:=by omega
   simp only[af,cd,ae,ints,e10] at*;generalize b.ae.map ah=rm at*;generalize az b.gone=rg at*;generalize az (jU b.gone g)=ru at*;have f1:k≤b.ae.length:=by omega
   have f2:k+1≤b.ae.length:=by omega
   have f3:(0:Int)≤k:=by omega
   have f4:(0:Int)≤(k:Int)+1:=by omega
   have f5:(k:Int)≤b.ae.length:=by omega
   have f6:(k:Int)+1≤b.ae.length:=by omega
   have f7:((k:Int)+1).toNat=k+1:=by omega
   have f8:rm.take b.ae.length=rm:=ab (by omega);have f9:k≤4294967296:=by omega
   have f10:b.ae.length≤4294967296:=by omega
   have f11:k+(b.ae.length-(k+1))≤4294967296:=by omega
   have f13:IntKind.i64.wrap 1=1:=wrap_i64 (by omega) (by omega);have f14:b.ae.length≤4294967297:=by omega
   have f12:rm.length-(k+1)≤4294967296:=by omega
   by_cases z:k=0
   ·subst z;by_cases y:b.ae.length=1
    ·have y2:rm.drop 1=[]:=dY (by omega);simp (maxSteps:=9^9) [bl,cZ.m,cZ.b,aa,setAt,h1,h2,h4,h5,e7,e8,e12,n3,f13,y,y2,ab]
    ·have y1:¬1=b.ae.length:=by omega
     simp (maxSteps:=9^9) [bl,cZ.m,cZ.b,aa,setAt,h1,h2,h4,h5,e7,e8,e12,n3,f1,f2,f9,f13,f14,y1,ab]
   ·have z0:¬0=k:=by omega
    by_cases y:b.ae.length=k+1
    ·have y2:rm.drop (k+1)=[]:=dY (by omega);simp (maxSteps:=9^9) [bl,cZ.m,cZ.b,aa,setAt,h1,h2,h4,h5,e7,e8,e9,e12,hng,n3,f3,f4,f7,f9,z,z0,y,y2,ab]
    ·have y1:¬k+1=b.ae.length:=by omega
     simp (maxSteps:=9^9) [bl,cZ.m,cZ.b,aa,setAt,h1,h2,h4,h5,e7,e8,e9,e12,e14,hng,n3,f1,f2,f3,f4,f7,f9,f11,z,z0,y1,ab]
  ·have n2:40≤b.gone.length:=by omega
   have n3:(40:Int)≤(b.gone.length:Int):=by omega
   simp only[c2,and_false,if_false];simp only[af,cd,ae,ints] at*;generalize b.ae.map ah=rm at*;generalize az b.gone=rg at*;simp (maxSteps:=9^9) [bl,cZ.m,cZ.b,aa,setAt,h1,h2,h4,e7,e8,n3,hng,ab]
end Mx
namespace Mx
open Go
theorem zV(l:List bo)(g:Int):∀d i k,Bl l g d i=some k→i≤k∧∃h:k<l.length,(l[k]).gid=g∧∀j,i≤j→(hj:j<k)→(l[j]'(by omega)).gid≠g
 |0,i,k,h=>by simp[Bl] at h
 |d+1,i,k,h=>by
  simp only[Bl] at h;split at h
  ·rename_i hi;split at h
   ·rename_i e;cases h;exact⟨Nat.le_refl _,hi,e,fun j h1 h2=>by omega⟩
   ·rename_i e;obtain⟨h1,h2,h3,h4⟩:=zV l g d (i+1) k h;refine⟨by omega,h2,h3,fun j hj hk=> ?_⟩;by_cases q:j=i
    ·subst q;exact e
    ·exact h4 j (by omega) hk
  ·cases h
theorem zW(l:List bo)(g:Int):∀d i,Bl l g d i=none→∀j,i≤j→j<i+d→(hj:j<l.length)→(l[j]).gid≠g
 |0,i,h,j,h1,h2,hj=>by omega
 |d+1,i,h,j,h1,h2,hj=>by
  simp only[Bl] at h;rw[dif_pos (by omega)] at h;split at h
  ·cases h
  ·rename_i e;by_cases q:j=i
   ·subst q;exact e
   ·exact zW l g d (i+1) h j (by omega) (by omega) hj
theorem my{l:List bo}{g:Int}{k:Nat}(h:fD l g=some k):∃h:k<l.length,(l[k]).gid=g∧∀j,(hj:j<k)→(l[j]'(by omega)).gid≠g:=by
 obtain⟨_,h1,h2,h3⟩:=zV l g _ _ _ h;exact⟨h1,h2,fun j hj=>h3 j (Nat.zero_le _) hj⟩
theorem om{l:List bo}{g:Int}:fD l g=none↔∀m∈l,m.gid≠g:=by
 constructor
 ·intro h m hm;obtain⟨j,hj,rfl⟩:=bV hm;exact zW l g _ _ h j (Nat.zero_le _) (by omega) hj
 ·intro h;cases q:fD l g with
  |none=>rfl
  |some k=>
   obtain⟨h1,h2,_⟩:=my q;exact(h _ (ax h1) h2).elim
theorem Ek{l:List bo}{k:Nat}(hk:k<l.length)(h:∀j,(hj:j<k)→(l[j]'(by omega)).gid≠(l[k]).gid):fD l (l[k]).gid=some k:=by
 cases q:fD l (l[k]).gid with
 |none=>exact(om.1 q _ (ax hk) rfl).elim
 |some k'=>
  obtain⟨h1,h2,h3⟩:=my q;rcases Nat.lt_trichotomy k' k with c|c|c
  ·exact(h k' c h2).elim
  ·rw[c]
  ·exact(h3 k c rfl).elim
structure Good (b:bz):Prop where
 gid:1≤b.gid∧b.gid≤9999
 name:mh b.name=true
 st:j2 b.time b.eE=true
 next:1≤b.next∧b.next≤10000
 len:b.ae.length≤10
 gone:xl b.gone
 vY:∀g∈b.gone,1≤g∧g≤9999
 mG:b.gone.length≤40
 El:∀m∈b.ae,iU m=true∧m.uid<b.next∧¬m.gid∈b.gone
 JZ:b.ae.Pairwise (fun a c=>a.uid<c.uid)
 e_:b.ae.Pairwise (fun a c=>a.gid≠c.gid)
theorem vj{l:List Int}(h:∀j (hj:j+1<l.length),l[j]<l[j+1]):xl l:=by
 have hn:∀j (hj:j<l.length),∀i (hi:i<j),l[i]'(by omega)<l[j]:=by
  intro j
  induction j with
  |zero=>intro _ i hi;omega
  |succ j ih=>
   intro hj i hi;by_cases e:i=j
   ·subst e;exact h i hj
   ·exact Int.lt_trans (ih (by omega) i (by omega)) (h j hj)
 exact List.pairwise_iff_getElem.2 fun i j hi hj hij=>hn j hj i hij
theorem ov{l:List Int}{most:Int}:kS l most=true↔xl l∧(∀g∈l,1≤g∧g≤9999)∧(l.length:Int)≤most:=by
 constructor
 ·intro h;exact⟨vZ h,(oK h).2,(oK h).1⟩
 ·rintro ⟨h1,h2,h3⟩;simp only[kS,al,decide_eq_true_eq,cp,iV];refine⟨fun j hj=> ?_,h3⟩;rw[m_ hj];have q1:=h2 _ (ax hj);simp only[fG,Bool.not_eq_eq_eq_not,Bool.not_false,Bool.and_eq_false_imp,decide_eq_true_eq,decide_eq_false_iff_not];refine⟨kC.2 q1,fun h0=> ?_⟩;have:=List.pairwise_iff_getElem.1 h1 (j-1) j (by omega) hj (by omega);omega
theorem pg{b:bz}:fz b=true↔Good b:=by
 constructor
 ·intro h;have hv:=jv h;have hg:=ov.1 (wF h);simp only[fz,al,decide_eq_true_eq,cp,iV] at h;obtain⟨⟨⟨⟨⟨⟨h1,h2⟩,h3⟩,h4⟩,h5⟩,h6⟩,h7⟩:=h;have key:∀i (hi:i<b.ae.length),iU b.ae[i]=true∧b.ae[i].uid<b.next∧(0<i→b.ae[i-1].uid<b.ae[i].uid)∧fD b.ae b.ae[i].gid=some i∧¬b.ae[i].gid∈b.gone:=by
   intro i hi;have:=h7 i hi;rw[mA hi] at this;simp only[fG,Bool.not_eq_eq_eq_not,Bool.not_false,Bool.and_eq_false_imp,decide_eq_true_eq,decide_eq_false_iff_not] at this;obtain⟨⟨⟨⟨q1,q2⟩,q3⟩,q4⟩,q5⟩:=this;refine⟨q1,by omega,fun h0=>by have:=q3 h0;omega, ?_,q5⟩;cases e:fD b.ae b.ae[i].gid with
   |none=>rw[e] at q4;simp only[dy] at q4;omega
   |some k=>rw[e] at q4;simp only[dy] at q4;rw[show k=i by omega]
  refine⟨kC.1 h1,h2,h3,kC.1 h4,h5,hg.1,hg.2.1,by omega,fun m hm=> ?_, ?_, ?_⟩
  ·obtain⟨j,hj,rfl⟩:=bV hm;have:=key j hj;exact⟨this.1,this.2.1,this.2.2.2.2⟩
  ·have ha:xl (b.ae.map (·.uid)):=vj fun j hj=>by
    simp only[fP] at hj;have:=(key (j+1) hj).2.2.1 (by omega);simpa using this
   exact List.pairwise_map.1 ha
  ·refine List.pairwise_iff_getElem.2 fun i j hi hj hij e=> ?_
   obtain⟨_,_,h3⟩:=my (key j hj).2.2.2.1;exact h3 i hij e
 ·intro h;simp only[fz,al,decide_eq_true_eq,cp,iV];refine⟨⟨⟨⟨⟨⟨kC.2 h.gid,h.name⟩,h.st⟩,kC.2 h.next⟩,h.len⟩,ov.2 ⟨h.gone,h.vY,by have:=h.mG;omega⟩⟩,fun i hi=> ?_⟩;rw[mA hi];obtain⟨q1,q2,q3⟩:=h.El _ (ax hi);simp only[fG,Bool.not_eq_eq_eq_not,Bool.not_false,Bool.and_eq_false_imp,decide_eq_true_eq,decide_eq_false_iff_not];refine⟨⟨⟨⟨q1,by omega⟩,fun h0=> ?_⟩, ?_⟩,q3⟩
  ·have:=List.pairwise_iff_getElem.1 h.JZ (i-1) i (by omega) hi (by omega);omega
  ·rw[Ek hi fun j hj=>List.pairwise_iff_getElem.1 h.e_ j i (by omega) hi hj];rfl
structure FJ (i:Nat) (b:bz):Prop where
 lf:Good b
 m:∀m∈b.ae,10≤m.gid∧m.gid≤18
 g:∀g∈b.gone,10≤g∧g≤18
 nx:b.next≤4+i
 gl:b.gone.length≤i
theorem FJ.mono{i j:Nat}{b:bz}(h:FJ i b)(hij:i≤j):FJ j b:=⟨h.lf,h.m,h.g,by have:=h.nx;omega,by have:=h.gl;omega⟩
theorem Good.th{b:bz}(h:Good b):gT b:=
 ⟨by have:=h.len;omega,by have:=h.mG;omega,by have:=(mu h.name).2;omega,fun m hm=>by have:=(mE (h.El m hm).1).2.2.1;omega⟩
theorem EF(l:List Int)(x:Int):(jU l x).length≤l.length+1:=by
 have h:∀l:List Int,(l.filter (fun y=>decide (y<x))).length+(l.filter (fun y=>decide (x<y))).length≤l.length:=by
  intro l
  induction l with
  |nil=>simp
  |cons a l ih=>
   simp only[h_];by_cases c1:a<x
   ·have c2:¬x<a:=by omega
    simp[c1,c2];omega
   ·by_cases c2:x<a
    ·simp[c1,c2];omega
    ·simp[c1,c2];omega
 have:=h l;simp only[jU,aF,bP];omega
theorem mm{α:Type}(l:List α)(k:Nat):(l.take k++l.drop (k+1)).Sublist l:=by
 have e:l=l.take k++l.drop k:=(cX k l).symm;have h1:(l.drop (k+1)).Sublist (l.drop k):=by rw[←List.drop_drop];exact List.drop_sublist 1 _
 have h2:=List.Sublist.append (List.Sublist.refl (l.take k)) h1;rw[←e] at h2;exact h2
theorem C3{b:bz}(h:Good b){k:Nat}(hk:k<b.ae.length)(h40:b.gone.length<40):
  Good {b with ae:=b.ae.take k++b.ae.drop (k+1),gone:=jU b.gone (b.ae[k]).gid}:=by
 have hs:=mm b.ae k;have hq:=h.El _ (ax hk);have hv:=(mE hq.1).1;have hgid:1≤(b.ae[k]).gid∧(b.ae[k]).gid≤9999:=by
  have:=hq.1;simp only[iU,al] at this;exact kC.1 this.1.1.1
 refine⟨h.gid,h.name,h.st,h.next,by have:=hs.length_le;have:=h.len;simp only;omega,sC h.gone,fun g hg=> ?_,by have:=EF b.gone (b.ae[k]).gid;simp only;omega,fun m hm=> ?_,h.JZ.sublist hs,h.e_.sublist hs⟩
 ·rcases nE.1 hg with q|q
  ·rw[q];exact hgid
  ·exact h.vY g q
 ·have hm':=h.El m (hs.subset hm);refine⟨hm'.1,hm'.2.1,fun c=> ?_⟩;rcases nE.1 c with q|q
  ·rcases List.mem_append.1 hm with z|z
   ·obtain⟨j,hj,rfl⟩:=bV z;rw[List.getElem_take] at q;have hjk:j<k:=by simp at hj;omega
    exact List.pairwise_iff_getElem.1 h.e_ j k (by omega) hk hjk q
   ·obtain⟨j,hj,rfl⟩:=bV z;rw[List.getElem_drop] at q;exact List.pairwise_iff_getElem.1 h.e_ k (k+1+j) hk (by simp at hj;omega) (by omega) q.symm
  ·exact hm'.2.2 q
end Mx
namespace Mx
open Go
variable {M:Nat→Option Body}
theorem gU.ar(h:gU.k M){R:List (List T)}(hR:Bytes R)(i:Nat)(q:Int)(hi:i≤R.length)(n:Nat)(h0:0<n)(hn:n≤256):
  ∃(s:Bool) (i':Nat) (q':Int),i'≤R.length∧run M 175 [.c (.ptr 0 0 0 0),.c (I n)] [iw R i q]=some (.c (.bool s),[iw R i' q']):=by
 obtain⟨hm,k1⟩:=h;obtain⟨x,i1,q1,hx,hi1,h1⟩:=bD.ar k1 hR i q hi n h0 (by omega);refine⟨decide (x=0),i1,q1,hi1, ?_⟩;refine aB (b:=gU.m) hm ⟨0, ?_⟩;simp (maxSteps:=9^9) [bl,gU.m,gU.b,aa,h1]
theorem Good.flags{b:bz}(h:Good b):∀m∈b.ae,m.flags.length≤4:=fun m hm=>by have:=(mE (h.El m hm).1).2.2.1;omega
end Mx
namespace Mx
open Go
theorem p6(need:Int→Bool):∀(l:List bo) (n:Int),(d_ need n l).1.map (·.gid)=l.map (·.gid)
 |[],n=>rfl
 |m::l,n=>by
  simp only[d_];split
  ·simp[p6 need l (n+1)]
  ·simp[p6 need l n]
theorem l_(need:Int→Bool):∀(l:List bo) (n:Int),n≤(d_ need n l).2∧(d_ need n l).2≤n+l.length
 |[],n=>by simp[d_]
 |m::l,n=>by
  simp only[d_,b7];split
  ·have:=l_ need l (n+1);simp only;omega
  ·have:=l_ need l n;simp only;omega
theorem qC(need:Int→Bool):∀(l:List bo) (n:Int) (m:bo),m∈(d_ need n l).1→
  ∃m0∈l,m0.gid=m.gid∧m.flags=m0.flags∧m.text=m0.text∧((need m.gid=true∧n≤m.uid∧m.uid<(d_ need n l).2)∨(need m.gid=false∧m.uid=m0.uid))
 |[],n,m,h=>by simp[d_] at h
 |a::l,n,m,h=>by
  simp only[d_] at h ⊢;split at h
  ·rename_i c;rw[if_pos c];rcases List.mem_cons.1 h with rfl|h
   ·exact⟨a,bj ..,rfl,rfl,rfl,.inl ⟨c,by simp only;omega,by have:=(l_ need l (n+1)).1;simp only;omega⟩⟩
   ·obtain⟨m0,h1,h2,h3,h4,h5⟩:=qC need l (n+1) m h;exact⟨m0,bp _ h1,h2,h3,h4,h5.imp (fun q=>⟨q.1,by omega,q.2.2⟩) id⟩
  ·rename_i c;rw[if_neg c];rcases List.mem_cons.1 h with rfl|h
   ·exact⟨m,bj ..,rfl,rfl,rfl,.inr ⟨by simpa using c,rfl⟩⟩
   ·obtain⟨m0,h1,h2,h3,h4,h5⟩:=qC need l n m h;exact⟨m0,bp _ h1,h2,h3,h4,h5⟩
def stay(a b:bz):List Int:=(aQ (e_ a.ae) (e_ b.ae)).filter fun g=> !decide (g∈aQ a.gone b.gone)
theorem DY{a b:bz}{g:Int}:g∈stay a b↔(g∈e_ a.ae∨g∈e_ b.ae)∧¬(g∈a.gone∨g∈b.gone):=by
 simp[stay,fi,iq]
theorem sy{a b:bz}(ha:(e_ a.ae).Nodup)(hb:(e_ b.ae).Nodup):
  (iK a b).1.Perm (d_ (iJ a b) (Max.max a.next b.next) ((stay a b).map (me a.ae b.ae))).1:=by
 rw[←o8 ha hb];simp only[nT];rw[D0 ha hb];exact nA _
theorem yD{a b:bz}(ha:(e_ a.ae).Nodup)(hb:(e_ b.ae).Nodup):(e_ (iK a b).1).Perm (stay a b):=by
 have h:=(sy ha hb).map (fun m:bo=>m.gid);rw[p6] at h;refine h.trans (List.Perm.of_eq ?_);rw[List.map_map];have:∀l:List Int,(∀g∈l,g∈e_ a.ae∨g∈e_ b.ae)→l.map ((fun m:bo=>m.gid)∘me a.ae b.ae)=l:=by
  intro l hl
  induction l with
  |nil=>rfl
  |cons g l ih=>
   rw[bE,ih fun g hg=>hl g (bp _ hg)];simp only[Function.comp];rw[o9 (hl g (bj ..))]
 exact this _ fun g hg=>(DY.1 hg).1
theorem Good.nd{b:bz}(h:Good b):(Mx.e_ b.ae).Nodup:=List.pairwise_map.2 h.e_
theorem nv{l:List bo}{g:Int}:fD l g=none↔je l g=none:=by rw[om,nB]
theorem ly{l:List bo}{g:Int}{k:Nat}(h:fD l g=some k):∃hk:k<l.length,je l g=some l[k]:=by
 obtain⟨h1,h2,h3⟩:=my h;refine⟨h1, ?_⟩;unfold je;rw[List.find?_eq_some_iff_getElem];exact⟨by simp[h2],k,h1,rfl,fun j hj=>by simpa using h3 j hj⟩
theorem zw{a b:bz}(ha:(e_ a.ae).Nodup)(hb:(e_ b.ae).Nodup):a.next≤(iK a b).2∧b.next≤(iK a b).2:=by
 rw[←o8 ha hb];simp only[nT];have:=(l_ (iJ a b) (eT (·.gid) ((allM a.ae b.ae).filter fun m=> !decide (m.gid∈aQ a.gone b.gone))) (Max.max a.next b.next)).1;omega
end Mx
namespace Mx
open Go
variable {M:Nat→Option Body}
theorem gA.ar(h:gA.k M)(m:bo)(G:List Int)(hG:G.length≤4194304):run M 454 [.a (ah m),.c (.vp [ints G] 0)] []=some (.c (.bool (decide (m.gid∈G))),[]):=by
 have h1:=aH.ar h.2 G m.gid (by omega);refine aB (b:=gA.m) h.1 ⟨0, ?_⟩;simp only[ints] at h1 ⊢;generalize az G=g at*;simp (maxSteps:=9^9) [bl,gA.m,gA.b,aa,h1,ah]
def firstM(a b:List bo):List bo:=a.map fun m=>match je b m.gid with|some y=>gW m y|none=>m
theorem pR(a b:List bo):(firstM a b).length=a.length:=by simp[firstM]
def zy(u2 u3:Nat)(a b:bz)(v:Nat)(rows:List (List T)):List (Nat×Ob):=[(2,⟨u2,7,true,true,[af a]⟩),(3,⟨u3,7,true,true,[af b]⟩),(16,⟨v,4,true,false,rows⟩)]
structure Ij where
 i:Nat
 v:Nat
 n:Nat
def G5(u2 u3:Nat)(a b:bz)(s:Ij):St:={t:=[(2,.c (.ptr 2 u2 0 0)),(3,.c (.ptr 3 u3 0 0)),(6,.c (.row 16 s.v 0 s.i)),(18,.c (ae a.ae)),(19,.c (I a.ae.length)),(20,.c (I s.i))],o:=zy u2 u3 a b s.v (((firstM a.ae b.ae).take s.i).map ah),n:=s.n}
def Kq(u2 u3:Nat)(a b:bz)(s:Ij):St:={t:=[(2,.c (.ptr 2 u2 0 0)),(3,.c (.ptr 3 u3 0 0)),(6,.c (.row 16 s.v 0 s.i)),(18,.c (ae a.ae)),(19,.c (I a.ae.length)),(20,.c (I s.i)),(21,.c (.bool false))],o:=zy u2 u3 a b s.v (((firstM a.ae b.ae).take s.i).map ah),n:=s.n}
structure Jt (M:Nat→Option Body):Prop where
 holds:iH.k M
 keeps:dC.k M
 gone:fh.k M
 at_:cE.k M
 copy:ee.k M
 join:fg.k M
 del:aC.k M
 c1:gA.k M
 sort:aV.k M
 c2:gz.k M
 c3:gw.k M
theorem G3(K:Jt M)(k u2 u3:Nat)(a b:bz)(ha:gT a)(hb:gT b)(s:Ij)(hs:s.i<a.ae.length):
  ∃v' n',ct (run M) k bW.l0 (G5 u2 u3 a b s)=some (.normal,G5 u2 u3 a b ⟨s.i+1,v',n'⟩):=by
 obtain⟨i,v,n⟩:=s;simp only at hs;have hm:=ha.m;have h1:=cE.ar K.at_ b a.ae[i].gid hb.m;have e5:=cA (i:=i) (by omega);have e6:i+1≤4294967296:=by omega
 have hl:=pR a.ae b.ae;have e7:(((firstM a.ae b.ae).take i).map ah).length=i:=by simp[hl];omega
 have e9:(a.ae.map ah).length=a.ae.length:=by simp
 have e8:((firstM a.ae b.ae).take (i+1)).map ah=((firstM a.ae b.ae).take i).map ah++[ah (firstM a.ae b.ae)[i]]:=by
  rw[gK _ _ (by rw[hl];exact hs),cH];rfl
 have a1:∀hh,(a.ae.map ah)[i]'hh=ah a.ae[i]:=by intro hh;simp
 cases hq:fD b.ae a.ae[i].gid with
 |none=>
  rw[hq] at h1;have h2:=ee.ar K.copy a.ae[i] (ha.f _ (ax hs));have ef:(firstM a.ae b.ae)[i]'(by rw[hl];exact hs)=a.ae[i]:=by
   simp only[firstM,fA,nv.1 hq]
  rw[ef] at e8;simp only[G5,zy,e8];simp only[af,ae,ints,dy,ah,iv,iZ] at h1 h2 a1 ⊢;generalize List.map ah ((firstM a.ae b.ae).take i)=rr at*;generalize a.ae.map ah=ra at*;generalize b.ae.map ah=rb at*;generalize az a.gone=ga at*;generalize az b.gone=gb at*;generalize a.ae[i].flags.map aR=rf at*;simp (maxSteps:=9^9) [bW.l0,aa,setAt,h1,h2,hs,e5,e6,e7,e9,a1,ab]
 |some q=>
  rw[hq] at h1;obtain⟨hq1,hq2⟩:=ly hq;have hf1:=ha.f _ (ax hs);have h3:=fg.ar K.join a.ae[i] b.ae[q] hf1 (hb.f _ (ax hq1));have h2:=ee.ar K.copy (gW a.ae[i] b.ae[q]) (Nat.le_trans (ql _ _) hf1);have ef:(firstM a.ae b.ae)[i]'(by rw[hl];exact hs)=gW a.ae[i] b.ae[q]:=by
   simp only[firstM,fA,hq2]
  rw[ef] at e8;have e10:(b.ae.map ah).length=b.ae.length:=by simp
  have a2:∀hh,(b.ae.map ah)[q]'hh=ah b.ae[q]:=by intro hh;simp
  simp only[G5,zy,e8];simp only[af,ae,ints,dy,ah,iv,iZ] at h1 h2 h3 a1 a2 ⊢;generalize List.map ah ((firstM a.ae b.ae).take i)=rr at*;generalize a.ae.map ah=ra at*;generalize b.ae.map ah=rb at*;generalize az a.gone=ga at*;generalize az b.gone=gb at*;generalize a.ae[i].flags.map aR=rf at*;generalize b.ae[q].flags.map aR=rg at*;generalize (gW a.ae[i] b.ae[q]).flags.map aR=rj at*;simp (maxSteps:=9^9) [bW.l0,aa,setAt,h1,h2,h3,hs,hq1,e5,e6,e7,e9,e10,a1,a2,ab]
theorem I4(k u2 u3:Nat)(a b:bz)(s:Ij)(hs:¬s.i<a.ae.length):
  ∃n',ct (run M) k bW.l0 (G5 u2 u3 a b s)=some (.exit 0,Kq u2 u3 a b ⟨s.i,s.v,n'⟩):=by
 obtain⟨i,v,n⟩:=s;simp only at hs;simp only[G5,Kq,zy];generalize List.map ah ((firstM a.ae b.ae).take i)=rr at*;simp only[af,ae,ints];generalize a.ae.map ah=ra at*;generalize b.ae.map ah=rb at*;simp (maxSteps:=9^9) [bW.l0,aa,hs]
theorem yN(a:bz)(g:Int):holds a g= !(je a.ae g).isNone:=by
 unfold holds;cases q:fD a.ae g with
 |none=>rw[nv.1 q];rfl
 |some k=>
  obtain⟨_,h⟩:=ly q;rw[h];exact decide_eq_true (Int.natCast_nonneg k)
def oL(a b:List bo)(i:Nat):List bo:=firstM a b++(b.take i).filter fun m=>(je a m.gid).isNone
theorem DN(a b:List bo):oL a b b.length=allM a b:=by
 unfold oL allM firstM;rw[List.take_length]
 all_goals (congr 1)
theorem CB(a b:List bo):oL a b 0=firstM a b:=by simp[oL]
theorem DM(a b:List bo)(i:Nat)(hi:i≤b.length):(oL a b i).length≤a.length+i:=by
 have:=bQ (fun m:bo=>(je a m.gid).isNone) (b.take i);simp only[oL,aF,pR];simp at this;omega
def G2(u2 u3:Nat)(a b:bz)(s:Ij):St:={t:=[(2,.c (.ptr 2 u2 0 0)),(3,.c (.ptr 3 u3 0 0)),(6,.c (.row 16 s.v 0 (oL a.ae b.ae s.i).length)),(44,.c (ae b.ae)),(45,.c (I b.ae.length)),(46,.c (I s.i))],o:=zy u2 u3 a b s.v ((oL a.ae b.ae s.i).map ah),n:=s.n}
def Kp(u2 u3:Nat)(a b:bz)(s:Ij):St:={t:=[(2,.c (.ptr 2 u2 0 0)),(3,.c (.ptr 3 u3 0 0)),(6,.c (.row 16 s.v 0 (oL a.ae b.ae s.i).length)),(44,.c (ae b.ae)),(45,.c (I b.ae.length)),(46,.c (I s.i)),(47,.c (.bool false))],o:=zy u2 u3 a b s.v ((oL a.ae b.ae s.i).map ah),n:=s.n}
theorem G0(K:Jt M)(k u2 u3:Nat)(a b:bz)(ha:gT a)(hb:gT b)(s:Ij)(hs:s.i<b.ae.length):
  ∃v' n',ct (run M) k bW.l1 (G2 u2 u3 a b s)=some (.normal,G2 u2 u3 a b ⟨s.i+1,v',n'⟩):=by
 obtain⟨i,v,n⟩:=s;simp only at hs;have hma:=ha.m;have hm:=hb.m;have h1:=iH.ar K.holds a b.ae[i].gid ha.m;have e5:=cA (i:=i) (by omega);have hl:=DM a.ae b.ae i (by omega);have e7:((oL a.ae b.ae i).map ah).length=(oL a.ae b.ae i).length:=by simp
 have e6:(oL a.ae b.ae i).length+1≤4294967296:=by omega
 have e9:(b.ae.map ah).length=b.ae.length:=by simp
 have a1:∀hh,(b.ae.map ah)[i]'hh=ah b.ae[i]:=by intro hh;simp
 have eu:oL a.ae b.ae (i+1)=oL a.ae b.ae i++if holds a b.ae[i].gid=true then [] else [b.ae[i]]:=by
  simp only[oL,gK _ _ hs,List.filter_append,cP,yN];cases q:(je a.ae b.ae[i].gid).isNone<;>simp[q]
 cases hq:holds a b.ae[i].gid with
 |true=>
  rw[hq] at h1 eu;simp only[if_true,dZ] at eu;simp only[G2,zy,eu];simp only[af,ae,ints,ah,iZ] at h1 a1 ⊢;generalize List.map ah (oL a.ae b.ae i)=rr at*;generalize (oL a.ae b.ae i).length=nr at*;generalize a.ae.map ah=ra at*;generalize b.ae.map ah=rb at*;generalize az a.gone=ga at*;generalize az b.gone=gb at*;generalize b.ae[i].flags.map aR=rf at*;simp (maxSteps:=9^9) [bW.l1,setAt,h1,hs,e5,e9,a1,ab]
 |false=>
  rw[hq] at h1 eu;simp only[au,if_false] at eu;have h2:=ee.ar K.copy b.ae[i] (hb.f _ (ax hs));simp only[G2,zy,eu,cH,bE,bJ,aF,bP];simp only[af,ae,ints,ah,iv,iZ] at h1 h2 a1 ⊢;generalize List.map ah (oL a.ae b.ae i)=rr at*;generalize (oL a.ae b.ae i).length=nr at*;generalize a.ae.map ah=ra at*;generalize b.ae.map ah=rb at*;generalize az a.gone=ga at*;generalize az b.gone=gb at*;generalize b.ae[i].flags.map aR=rf at*;simp (maxSteps:=9^9) [bW.l1,setAt,h1,h2,hs,e5,e6,e7,e9,a1,ab]
theorem I3(k u2 u3:Nat)(a b:bz)(s:Ij)(hs:¬s.i<b.ae.length):
  ∃n',ct (run M) k bW.l1 (G2 u2 u3 a b s)=some (.exit 2,Kp u2 u3 a b ⟨s.i,s.v,n'⟩):=by
 obtain⟨i,v,n⟩:=s;simp only at hs;simp only[G2,Kp,zy];generalize List.map ah (oL a.ae b.ae i)=rr at*;simp only[af,ae,ints];generalize a.ae.map ah=ra at*;generalize b.ae.map ah=rb at*;simp (maxSteps:=9^9) [bW.l1,hs]
def mo(need:Int→Bool)(nx:Int)(l:List bo)(i:Nat):List bo:=(d_ need nx (l.take i)).1++l.drop i
def pk(need:Int→Bool)(nx:Int)(l:List bo)(i:Nat):Int:=(d_ need nx (l.take i)).2
theorem p5(need:Int→Bool)(m:bo):∀(l:List bo) (n:Int),d_ need n (l++[m])=if need m.gid=true then((d_ need n l).1++[{m with uid:=(d_ need n l).2}],(d_ need n l).2+1) else((d_ need n l).1++[m],(d_ need n l).2)
 |[],n=>by simp[d_]
 |a::l,n=>by
  simp only[List.cons_append,d_,p5 need m l];by_cases c:need a.gid=true<;>by_cases c2:need m.gid=true<;>simp[c,c2]
theorem jF(need:Int→Bool):∀(l:List bo) (n:Int),(d_ need n l).1.length=l.length
 |[],n=>rfl
 |a::l,n=>by
  simp only[d_];split<;>simp[jF need l]
theorem qU(need:Int→Bool)(nx:Int)(l:List bo)(i:Nat):(mo need nx l i).length=l.length:=by
 simp only[mo,aF,jF,hZ,List.length_drop];omega
theorem Fa(need:Int→Bool)(nx:Int)(l:List bo)(i:Nat)(h:i<l.length):(mo need nx l i)[i]'(by rw[qU];exact h)=l[i]:=by
 have e:(d_ need nx (l.take i)).1.length=i:=by rw[jF];simp;omega
 simp only[mo];rw[List.getElem_append_right (by omega)];simp[e]
theorem Bn(need:Int→Bool)(nx:Int)(l:List bo)(i:Nat)(h:i<l.length):
  mo need nx l (i+1)=if need l[i].gid=true then(mo need nx l i).set i {l[i] with uid:=pk need nx l i} else mo need nx l i:=by
 have e:(d_ need nx (l.take i)).1.length=i:=by rw[jF];simp;omega
 have hd:l.drop i=l[i]::l.drop (i+1):=bA h;simp only[mo,pk,gK l i h,p5];by_cases c:need l[i].gid=true
 ·rw[if_pos c,if_pos c,List.set_append_right _ _ (by omega),e,Nat.sub_self];simp;rw[hd];rfl
 ·rw[if_neg c,if_neg c,hd];simp
theorem Dk(need:Int→Bool)(nx:Int)(l:List bo)(i:Nat)(h:i<l.length):pk need nx l (i+1)=if need l[i].gid=true then pk need nx l i+1 else pk need nx l i:=by
 simp only[pk,gK l i h,p5];split<;>rfl
theorem Bo(need:Int→Bool)(nx:Int)(l:List bo)(i:Nat):nx≤pk need nx l i∧pk need nx l i≤nx+l.length:=by
 have h:=l_ need (l.take i) nx;simp only[pk];have:(l.take i).length≤l.length:=by simp;omega
 omega
structure Lj where
 i:Nat
 v:Nat
 n:Nat
def H_(u2 u3:Nat)(a b:bz)(need:Int→Bool)(nx:Int)(l:List bo)(Z:List (List T))(s:Lj):St:={t:=[(2,.c (.ptr 2 u2 0 0)),(3,.c (.ptr 3 u3 0 0)),(6,.c (.row 16 s.v 0 l.length)),(13,.c (I (pk need nx l s.i))),(76,.c (.row 16 s.v 0 l.length)),(77,.c (I l.length)),(78,.c (I s.i))],o:=zy u2 u3 a b s.v ((mo need nx l s.i).map ah++Z),n:=s.n}
def Ko(u2 u3:Nat)(a b:bz)(need:Int→Bool)(nx:Int)(l:List bo)(Z:List (List T))(s:Lj):St:={t:=[(2,.c (.ptr 2 u2 0 0)),(3,.c (.ptr 3 u3 0 0)),(6,.c (.row 16 s.v 0 l.length)),(13,.c (I (pk need nx l s.i))),(76,.c (.row 16 s.v 0 l.length)),(77,.c (I l.length)),(78,.c (I s.i)),(79,.c (.bool false))],o:=zy u2 u3 a b s.v ((mo need nx l s.i).map ah++Z),n:=s.n}
theorem GY(K:Jt M)(k u2 u3:Nat)(a b:bz)(ha:gT a)(hb:gT b)(nx:Int)(hnx: -1000000000≤nx∧nx≤4611686018427387904)(l:List bo)(hl:l.length≤1048576)(Z:List (List T))(s:Lj)(hs:s.i<l.length):
  ∃n',ct (run M) k bW.l2 (H_ u2 u3 a b (iJ a b) nx l Z s)=some (.normal,H_ u2 u3 a b (iJ a b) nx l Z ⟨s.i+1,s.v,n'⟩):=by
 obtain⟨i,v,n⟩:=s;simp only at hs;have h1:=iH.ar K.holds a l[i].gid ha.m;have h2:=iH.ar K.holds b l[i].gid hb.m;have h3:=dC.ar K.keeps a b l[i].gid ha.m hb.m;have h4:=dC.ar K.keeps b a l[i].gid hb.m ha.m;have e5:=cA (i:=i) (by omega);have hr:=Bo (iJ a b) nx l i;have e6:IntKind.i64.wrap (pk (iJ a b) nx l i+1)=pk (iJ a b) nx l i+1:=wrap_i64 (by omega) (by omega);have e7:i<((mo (iJ a b) nx l i).map ah++Z).length:=by simp[qU];omega
 have a1:∀hh,((mo (iJ a b) nx l i).map ah++Z)[i]'hh=ah l[i]:=by
  intro hh;rw[List.getElem_append_left (by simp[qU];omega)];simp only[fA,Fa _ _ _ _ hs]
 have t1:=Bn (iJ a b) nx l i hs;have t2:=Dk (iJ a b) nx l i hs;have t3:((mo (iJ a b) nx l (i+1)).map ah++Z)=if iJ a b l[i].gid=true then((mo (iJ a b) nx l i).map ah++Z).set i (ah {l[i] with uid:=pk (iJ a b) nx l i}) else(mo (iJ a b) nx l i).map ah++Z:=by
  rw[t1];split
  ·rw[gZ,List.set_append_left _ _ (by simp[qU];omega)]
  ·rfl
 simp only[H_,zy,t2,t3];have hn:iJ a b l[i].gid=(holds a l[i].gid&& !iN a b l[i].gid||holds b l[i].gid&& !iN b a l[i].gid):=rfl;rw[hn];clear hn t1 t2 t3;generalize (mo (iJ a b) nx l i).map ah++Z=rr at*;generalize pk (iJ a b) nx l i=z at*;generalize holds a l[i].gid=p1 at*;generalize holds b l[i].gid=p2 at*;generalize iN a b l[i].gid=p3 at*;generalize iN b a l[i].gid=p4 at*;simp only[af,ae,ints,ah,iZ] at h1 h2 h3 h4 a1 ⊢;generalize a.ae.map ah=ra at*;generalize b.ae.map ah=rb at*;generalize az a.gone=ga at*;generalize az b.gone=gb at*;generalize l[i]=m at*;generalize m.flags.map aR=rf at*;generalize l.length=N at*;cases p1<;>cases p2<;>cases p3<;>cases p4<;>simp (maxSteps:=9^9) [bW.l2,setAt,h1,h2,h3,h4,hs,e5,e6,e7,a1,ab]
theorem I2(k u2 u3:Nat)(a b:bz)(need:Int→Bool)(nx:Int)(l:List bo)(Z:List (List T))(s:Lj)(hs:¬s.i<l.length):
  ∃n',ct (run M) k bW.l2 (H_ u2 u3 a b need nx l Z s)=some (.exit 4,Ko u2 u3 a b need nx l Z ⟨s.i,s.v,n'⟩):=by
 obtain⟨i,v,n⟩:=s;simp only at hs;simp only[H_,Ko,zy];generalize (mo need nx l i).map ah++Z=rr at*;generalize pk need nx l i=z at*;simp only[af,ae,ints];generalize a.ae.map ah=ra at*;generalize b.ae.map ah=rb at*;simp (maxSteps:=9^9) [bW.l2,hs]
theorem Bm(need:Int→Bool)(nx:Int)(l:List bo):mo need nx l 0=l:=by simp[mo,d_]
theorem Dj(need:Int→Bool)(nx:Int)(l:List bo):pk need nx l 0=nx:=by simp[pk,d_]
theorem Di(need:Int→Bool)(nx:Int)(l:List bo):mo need nx l l.length=(d_ need nx l).1:=by simp[mo]
theorem Fb(need:Int→Bool)(nx:Int)(l:List bo):pk need nx l l.length=(d_ need nx l).2:=by simp[pk]
theorem A6(a b:List bo):(firstM a b).take a.length=firstM a b:=ab (by rw[pR];exact Nat.le_refl _)
theorem G4(K:Jt M)(k u2 u3:Nat)(a b:bz)(ha:gT a)(hb:gT b)(v n:Nat)(hk:a.ae.length<k):
  ∃v' n',eG (ct (run M) k bW.l0) k (G5 u2 u3 a b ⟨0,v,n⟩)=some (.exit 0,Kq u2 u3 a b ⟨a.ae.length,v',n'⟩):=by
 obtain⟨r,hr,⟨⟨i,v',n'⟩,rfl,hi⟩⟩:=kq (f:=ct (run M) k bW.l0) (G5 u2 u3 a b) (fun s=>s.i≤a.ae.length) (fun s=>a.ae.length-s.i) (fun r=>∃s',r=(.exit 0,Kq u2 u3 a b s')∧s'.i=a.ae.length)
  (fun s hs=>by
   by_cases c:s.i<a.ae.length
   ·left;obtain⟨v',n',hh⟩:=G3 K k u2 u3 a b ha hb s c;exact⟨_,hh,by simp only;omega,by simp only;omega⟩
   ·right;obtain⟨n',hh⟩:=I4 (M:=M) k u2 u3 a b s c;exact⟨_,hh,by simp,_,rfl,by simp only;omega⟩) k ⟨0,v,n⟩ (by simp) (by simp only;omega)
 simp only at hi;subst hi;exact⟨v',n',hr⟩
theorem G1(K:Jt M)(k u2 u3:Nat)(a b:bz)(ha:gT a)(hb:gT b)(v n:Nat)(hk:b.ae.length<k):
  ∃v' n',eG (ct (run M) k bW.l1) k (G2 u2 u3 a b ⟨0,v,n⟩)=some (.exit 2,Kp u2 u3 a b ⟨b.ae.length,v',n'⟩):=by
 obtain⟨r,hr,⟨⟨i,v',n'⟩,rfl,hi⟩⟩:=kq (f:=ct (run M) k bW.l1) (G2 u2 u3 a b) (fun s=>s.i≤b.ae.length) (fun s=>b.ae.length-s.i) (fun r=>∃s',r=(.exit 2,Kp u2 u3 a b s')∧s'.i=b.ae.length)
  (fun s hs=>by
   by_cases c:s.i<b.ae.length
   ·left;obtain⟨v',n',hh⟩:=G0 K k u2 u3 a b ha hb s c;exact⟨_,hh,by simp only;omega,by simp only;omega⟩
   ·right;obtain⟨n',hh⟩:=I3 (M:=M) k u2 u3 a b s c;exact⟨_,hh,by simp,_,rfl,by simp only;omega⟩) k ⟨0,v,n⟩ (by simp) (by simp only;omega)
 simp only at hi;subst hi;exact⟨v',n',hr⟩
theorem GZ(K:Jt M)(k u2 u3:Nat)(a b:bz)(ha:gT a)(hb:gT b)(nx:Int)(hnx: -1000000000≤nx∧nx≤4611686018427387904)(l:List bo)(hl:l.length≤1048576)(Z:List (List T))(v n:Nat)(hk:l.length<k):
  ∃n',eG (ct (run M) k bW.l2) k (H_ u2 u3 a b (iJ a b) nx l Z ⟨0,v,n⟩)=some (.exit 4,Ko u2 u3 a b (iJ a b) nx l Z ⟨l.length,v,n'⟩):=by
 obtain⟨r,hr,⟨⟨i,v',n'⟩,rfl,hi,hv⟩⟩:=kq (f:=ct (run M) k bW.l2) (H_ u2 u3 a b (iJ a b) nx l Z) (fun s=>s.i≤l.length∧s.v=v) (fun s=>l.length-s.i) (fun r=>∃s',r=(.exit 4,Ko u2 u3 a b (iJ a b) nx l Z s')∧s'.i=l.length∧s'.v=v)
  (fun s hs=>by
   by_cases c:s.i<l.length
   ·left;obtain⟨n',hh⟩:=GY K k u2 u3 a b ha hb nx hnx l hl Z s c;exact⟨_,hh,⟨by simp only;omega,hs.2⟩,by simp only;omega⟩
   ·right;obtain⟨n',hh⟩:=I2 (M:=M) k u2 u3 a b (iJ a b) nx l Z s c;have:=hs.1;exact⟨_,hh,by simp,_,rfl,by simp only;omega,hs.2⟩) k ⟨0,v,n⟩ ⟨by simp,rfl⟩ (by simp only;omega)
 simp only at hi hv;subst hi;subst hv;exact⟨n',hr⟩
theorem uQ(l:List Int)(x:Int):(jU l x).length≤l.length+1:=by
 have h:∀l:List Int,(l.filter (fun y=>decide (y<x))).length+(l.filter (fun y=>decide (x<y))).length≤l.length:=by
  intro l
  induction l with
  |nil=>simp
  |cons a l ih=>
   simp only[h_];by_cases c1:a<x
   ·have c2:¬x<a:=by omega
    simp[c1,c2];omega
   ·by_cases c2:x<a
    ·simp[c1,c2];omega
    ·simp[c1,c2];omega
 have:=h l;simp only[jU,aF,bP];omega
theorem jD(a b:List Int):(aQ a b).length≤a.length+b.length:=by
 have key:∀(l acc:List Int),(l.foldl jz acc).length≤l.length+acc.length:=by
  intro l
  induction l with
  |nil=>intro acc;simp
  |cons x l ih=>
   intro acc;have h1:=ih (jz acc x);have h2:(jz acc x).length≤acc.length+1:=by
    unfold jz;split
    ·omega
    ·exact uQ acc x
   simp only[eH,b7];omega
 have:=key (a++b) [];simp only[aF,fE] at this;exact this
theorem yy(a b:Int):Max.max a b=if a<b then b else a:=by split<;>omega
theorem bW.ar(h:bW.k M)(a b:bz)(ha:gT a)(hb:gT b)(hall:(allM a.ae b.ae).length≤20)(hna: -1000000000≤a.next∧a.next≤4611686018427387904)(hnb: -1000000000≤b.next∧b.next≤4611686018427387904):
  run M 437 [.a (af a),.a (af b)] []=some (.ll [.c (.sl true 4 ((nT a b).1.map ah)),.c (I (nT a b).2)],[]):=by
 obtain⟨h0,kh,kk,kg,ka,kc,kj,kd,k1,ks,k2,k3⟩:=h;have K:Jt M:=⟨kh,kk,kg,ka,kc,kj,kd,k1,ks,k2,k3⟩;have hma:=ha.m;have hmb:=hb.m;refine aB (b:=bW.m) h0 ⟨a.ae.length+b.ae.length+21, ?_⟩;generalize hk:a.ae.length+b.ae.length+21=k;obtain⟨v1,n1,r1⟩:=G4 K k 2000000 2000016 a b ha hb 2000064 2000160 (by omega);obtain⟨v2,n2,r2⟩:=G1 K k 2000000 2000016 a b ha hb v1 (n1+64) (by omega);have h4:=fh.ar kg a.gone b.gone ha.g hb.g;have hG:(aQ a.gone b.gone).length≤4194304:=by
  have:=jD a.gone b.gone;have:=ha.g;have:=hb.g;omega
 have hc1:=fun m=>gA.ar k1 m (aQ a.gone b.gone) hG
 have h5:=aC.ar kd hc1 (allM a.ae b.ae) (by omega);have hkl:((allM a.ae b.ae).filter fun m=> !decide (m.gid∈aQ a.gone b.gone)).length≤(allM a.ae b.ae).length:=bQ _ _;have h6:=aV.ar ks (k:=fun m:bo=>m.gid) (gz.ar k2) ((allM a.ae b.ae).filter fun m=> !decide (m.gid∈aQ a.gone b.gone)) (List.replicate ((allM a.ae b.ae).length-((allM a.ae b.ae).filter fun m=> !decide (m.gid∈aQ a.gone b.gone)).length) rv) (by omega);have hj:nT a b=(eT (·.uid) (d_ (iJ a b) (Max.max a.next b.next) (eT (·.gid) ((allM a.ae b.ae).filter fun m=> !decide (m.gid∈aQ a.gone b.gone)))).1,(d_ (iJ a b) (Max.max a.next b.next) (eT (·.gid) ((allM a.ae b.ae).filter fun m=> !decide (m.gid∈aQ a.gone b.gone)))).2):=rfl;rw[hj];have el0:((allM a.ae b.ae).map ah).length=(allM a.ae b.ae).length:=by simp
 have eF:firstM a.ae b.ae=firstM a.ae b.ae:=rfl;have hfl:=pR a.ae b.ae;simp only[G5,Kq,zy,List.take_zero,bJ,A6] at r1;simp only[G2,Kp,zy,CB,DN,hfl] at r2;simp only[qk,dZ] at h5 h6;generalize hz:List.replicate ((allM a.ae b.ae).length-((allM a.ae b.ae).filter fun m=> !decide (m.gid∈aQ a.gone b.gone)).length) rv=Z at*;generalize hl1:((allM a.ae b.ae).filter fun m=> !decide (m.gid∈aQ a.gone b.gone))=l1 at*;have hl2:(eT (fun m:bo=>m.gid) l1).length=l1.length:=ij _;generalize hs2:eT (fun m:bo=>m.gid) l1=l2 at*;obtain⟨n3,r3⟩:=GZ K k 2000000 2000016 a b ha hb (Max.max a.next b.next) (by omega) l2 (by omega) Z v2 (n2+112+64+32+96+48) (by omega);have h7:=aV.ar ks (k:=fun m:bo=>m.uid) (gw.ar k3) (d_ (iJ a b) (Max.max a.next b.next) l2).1 Z (by rw[jF];omega);rw[jF] at h7;simp only[H_,Ko,zy,Bm,Dj,Di,Fb] at r3;simp only[qk] at h7;have el1:l1.length≤(l1.map ah++Z).length:=by simp
 have el2:l2.length≤(l2.map ah++Z).length:=by simp
 have el3:l2.length≤((d_ (iJ a b) (Max.max a.next b.next) l2).1.map ah++Z).length:=by simp[jF]
 have el4:l2.length≤((eT (fun m:bo=>m.uid) (d_ (iJ a b) (Max.max a.next b.next) l2).1).map ah++Z).length:=by simp[ij,jF]
 have el5:(((eT (fun m:bo=>m.uid) (d_ (iJ a b) (Max.max a.next b.next) l2).1).map ah++Z).take l2.length)=(eT (fun m:bo=>m.uid) (d_ (iJ a b) (Max.max a.next b.next) l2).1).map ah:=by
  rw[List.take_append_of_le_length (by simp[ij,jF])];exact ab (by simp[ij,jF])
 have em:=yy a.next b.next;have ea:(a.ae.map ah).length=a.ae.length:=by simp
 have eb:(b.ae.map ah).length=b.ae.length:=by simp
 have ez:((0:Nat):Int)=0:=rfl;simp only[ez] at r1 r2 r3;generalize (d_ (iJ a b) (Max.max a.next b.next) l2).2=nz at*;simp only;generalize (eT (fun m:bo=>m.uid) (d_ (iJ a b) (Max.max a.next b.next) l2).1).map ah=R4 at*;generalize R4++Z=R4Z at*;generalize (d_ (iJ a b) (Max.max a.next b.next) l2).1.map ah++Z=R3Z at*;generalize hmx:Max.max a.next b.next=mx at*;generalize l2.map ah++Z=R2Z at*;generalize l1.map ah++Z=R1Z at*;rw[hl2] at*;clear hl1 hs2 hz hj hc1 K;generalize (allM a.ae b.ae).map ah=R0 at*;generalize (allM a.ae b.ae).length=N0 at*;generalize (firstM a.ae b.ae).map ah=RF at*;generalize l1.length=N1 at*;simp only[af,ae,ints] at*;generalize a.ae.map ah=ra at*;generalize b.ae.map ah=rb at*;generalize az (aQ a.gone b.gone)=gj at*;generalize az a.gone=ga at*;generalize az b.gone=gb at*;by_cases c:a.next<b.next
 ·rw[if_pos c] at em;subst em;simp (maxSteps:=9^9) [bl,bW.m,bW.b,aa,setAt,r1,r2,r3,h4,h5,h6,h7,c,ea,eb,el0,el1,el3,el4,el5]
 ·rw[if_neg c] at em;subst em;simp (maxSteps:=9^9) [bl,bW.m,bW.b,aa,setAt,r1,r2,r3,h4,h5,h6,h7,c,ea,eb,el0,el1,el3,el4,el5]
structure wL (a b:bz):Prop where
 ia:gT a
 ib:gT b
 ga:a.gone.length≤500000
 gb:b.gone.length≤500000
 na:(e_ a.ae).Nodup
 nb:(e_ b.ae).Nodup
 all:(allM a.ae b.ae).length≤20
 xa: -1000000000≤a.next∧a.next≤1000000000
 xb: -1000000000≤b.next∧b.next≤1000000000
theorem sx{a b:bz}(h:wL a b):(iK a b).1.length≤20:=by
 rw[←o8 h.na h.nb];simp only[nT,ij,jF];exact Nat.le_trans (bQ _ _) h.all
theorem gn.ar(h:gn.k M)(a b:bz)(H:wL a b):run M 401 [.a (af a),.a (af b)] []=some (.a (cd (gH a b)),[]):=by
 obtain⟨h0,kg,kc,kl,kj⟩:=h;have h1:=cq.ar kc a H.ia;have h2:=fh.ar kg a.gone b.gone H.ia.g H.ib.g;have h3:=fJ.ar kl b.time b.eE a.time a.eE;have h4:=fJ.ar kl a.time a.eE b.time b.eE;have h5:=bW.ar kj a b H.ia H.ib H.all (by have:=H.xa;omega) (by have:=H.xb;omega);rw[o8 H.na H.nb] at h5;have e1:(aQ a.gone b.gone).length≤4194304:=by
  have:=jD a.gone b.gone;have:=H.ia.g;have:=H.ib.g;omega
 have e2:=aM (aQ a.gone b.gone);have e3:((iK a b).1.map ah).length=(iK a b).1.length:=by simp
 have e4:(a.ae.map ah).length=a.ae.length:=by simp
 have e5:=aM a.gone;have e6:=tF a.name b.name;refine aB (b:=gn.m) h0 ⟨0, ?_⟩;unfold gH;by_cases c:a.gid=b.gid
 ·rw[if_pos c];generalize jX b.time b.eE a.time a.eE=x at*;generalize jX a.time a.eE b.time b.eE=y at*;generalize hw:iY a.name b.name=w at*;clear hw;simp only[af,cd,ae,ints] at*;generalize (iK a b).1.map ah=rj at*;generalize (iK a b).1.length=nj at*;generalize (iK a b).2=xj at*;generalize az (aQ a.gone b.gone)=gj at*;generalize a.ae.map ah=ra at*;generalize b.ae.map ah=rb at*;generalize az a.gone=ga at*;generalize az b.gone=gb at*;rw[c] at h5;cases x<;>cases y<;>cases w<;>simp (maxSteps:=9^9) [bl,gn.m,gn.b,aa,setAt,h2,h3,h4,h5,c,e2,e3,e6,ab]
 ·rw[if_neg c];simp only[af,cd,ae,ints] at*;generalize a.ae.map ah=ra at*;generalize b.ae.map ah=rb at*;generalize az a.gone=ga at*;generalize az b.gone=gb at*;simp (maxSteps:=9^9) [bl,gn.m,gn.b,aa,setAt,h1,c,e4,e5,ab]
theorem yC{a b:bz}(H:wL a b):∀m∈(iK a b).1,m.flags.length≤1048576:=by
 intro m hm;obtain⟨m0,h1,h2,h3,_,_⟩:=qC _ _ _ m ((sy H.na H.nb).mem_iff.1 hm);obtain⟨g,hg,rfl⟩:=List.mem_map.1 h1;rw[h3];unfold me;cases q1:je a.ae g with
 |some x=>
  have hx:=H.ia.f x (lQ q1).1;cases q2:je b.ae g with
  |some y=>exact Nat.le_trans (ql _ _) hx
  |none=>exact hx
 |none=>
  cases q2:je b.ae g with
  |some y=>exact H.ib.f y (lQ q2).1
  |none=>simp
theorem rO{a b:bz}(H:wL a b):gT (gH a b):=by
 unfold gH;split
 ·refine⟨by have:=sx H;simp only;omega, ?_, ?_,yC H⟩
  ·have:=jD a.gone b.gone;have:=H.ga;have:=H.gb;simp only;omega
  ·simp only;split
   ·exact H.ib.n
   ·exact H.ia.n
 ·exact H.ia
theorem Cj(a b:List bo):(allM a b).length≤a.length+b.length:=by
 have:=bQ (fun m:bo=>(je a m.gid).isNone) b;simp only[allM,aF,fP];omega
theorem Good.zu{a b:bz}(ha:Good a)(hb:Good b):wL a b:=
 ⟨ha.th,hb.th,by have:=ha.mG;omega,by have:=hb.mG;omega,ha.nd,hb.nd,by have:=Cj a.ae b.ae;have:=ha.len;have:=hb.len;omega,by have:=ha.next;omega,by have:=hb.next;omega⟩
theorem gE.ar(h:gE.k M)(a b:bz):run M 459 [.a (af a),.a (af b)] []=some (.c (I (Max.max a.next b.next)),[]):=by
 refine aB (b:=gE.m) h ⟨0, ?_⟩;have e:Max.max a.next b.next=if b.next<a.next then a.next else b.next:=by split<;>omega
 rw[e];simp only[af,ae,ints];by_cases c:b.next<a.next
 ·simp (maxSteps:=9^9) [bl,gE.m,gE.b,aa,c]
 ·simp (maxSteps:=9^9) [bl,gE.m,gE.b,aa,c]
theorem pJ(p:bo→Bool):∀(l s:List bo),l.foldl (fun s a=>if p a=true then s++[a] else s) s=s++l.filter p
 |[],s=>by simp
 |a::l,s=>by
  rw[eH,pJ p l,h_];by_cases h:p a=true<;>simp[h]
def Kb(l:List bo)(m:bo)(i:Nat)(s:List bo)(x:Nat×Nat):St:={t:=[(0,.c (ae l)),(3,.c (.ptr 3 2000000 0 0)),(5,.c (.row 8 x.1 0 s.length)),(6,.c (I i))],o:=[(3,⟨2000000,4,true,true,[ah m]⟩),(8,⟨x.1,4,true,false,s.map ah⟩)],n:=x.2}
def LP(l:List bo)(m:bo)(s:List bo)(x:Nat×Nat):St:={t:=[(0,.c (ae l)),(3,.c (.ptr 3 2000000 0 0)),(5,.c (.row 8 x.1 0 s.length)),(6,.c (I l.length)),(12,.c (.bool false))],o:=[(3,⟨2000000,4,true,true,[ah m]⟩),(8,⟨x.1,4,true,false,s.map ah⟩)],n:=x.2}
def Ka(l:List bo)(m:bo)(i:Nat)(s:List bo)(x:Nat×Nat):St:={t:=[(0,.c (ae l)),(3,.c (.ptr 3 2000000 0 0)),(5,.c (.row 8 x.1 0 s.length)),(7,.c (I i))],o:=[(3,⟨2000000,4,true,true,[ah m]⟩),(8,⟨x.1,4,true,false,s.map ah⟩)],n:=x.2}
def LM(l:List bo)(m:bo)(s:List bo)(x:Nat×Nat):St:={t:=[(0,.c (ae l)),(3,.c (.ptr 3 2000000 0 0)),(5,.c (.row 8 x.1 0 s.length)),(7,.c (I l.length)),(37,.c (.bool false))],o:=[(3,⟨2000000,4,true,true,[ah m]⟩),(8,⟨x.1,4,true,false,s.map ah⟩)],n:=x.2}
theorem cQ.ar(h:cQ.k M)(l:List bo)(m:bo)(hl:l.length≤16777216):run M 462 [.c (ae l),.a (ah m)] []=some (.c (.sl true 4 ((gX (·.uid) l m).map ah)),[]):=by
 refine aB (b:=cQ.m) h ⟨l.length+1, ?_⟩;have hrow:(l.map ah).length=l.length:=by simp
 have hat:∀i (hi:i<l.length) hh,(l.map ah)[i]'hh=ah l[i]:=by intro i hi hh;simp
 obtain⟨g,hr⟩:=iS (f:=ct (run M) (l.length+1) cQ.l0) l (fun s a=>if decide (a.uid≤m.uid)=true then s++[a] else s) (fun i s=>s.length≤i) (Kb l m) 0 (LP l m)
  (fun i h s hs=>by split<;>(try simp)<;>omega)
  (fun i hi s x hs=>by
   obtain⟨v,n⟩:=x;have e5:=cA (i:=i) (by omega);have e6:s.length+1≤4294967296:=by omega
   have e9:(s.map ah).length=s.length:=by simp
   have a1:=hat i hi;simp only[aE];by_cases c:l[i].uid≤m.uid
   ·simp only[c,decide_true,if_true,Kb,cH,bE,bJ,aF,bP];simp only[ae,ah,iZ] at a1 ⊢;generalize s.map ah=rr at*;generalize l.map ah=rl at*;generalize l[i].flags.map aR=rf at*;simp (maxSteps:=9^9) [cQ.l0,aa,hi,hrow,a1,c,e5,e6,e9,ab]
   ·simp only[c,decide_false,au,if_false,Kb];simp only[ae,ah,iZ] at a1 ⊢;generalize s.map ah=rr at*;generalize l.map ah=rl at*;generalize l[i].flags.map aR=rf at*;simp (maxSteps:=9^9) [cQ.l0,aa,hi,hrow,a1,c,e5])
  (fun s x hs=>by
   obtain⟨v,n⟩:=x;simp only[aE,Kb,LP,ae];generalize l.map ah=rl at*;simp (maxSteps:=9^9) [cQ.l0,aa,hrow]) [] (by simp)
 obtain⟨g',hr'⟩:=iS (f:=ct (run M) (l.length+1) cQ.l1) l (fun s a=>if decide (m.uid<a.uid)=true then s++[a] else s) (fun i s=>s.length≤l.length+1+i) (Ka l m) 2 (LM l m)
  (fun i h s hs=>by split<;>(try simp)<;>omega)
  (fun i hi s x hs=>by
   obtain⟨v,n⟩:=x;have e5:=cA (i:=i) (by omega);have e6:s.length+1≤4294967296:=by omega
   have e9:(s.map ah).length=s.length:=by simp
   have a1:=hat i hi;simp only[aE];by_cases c:m.uid<l[i].uid
   ·simp only[c,decide_true,if_true,Ka,cH,bE,bJ,aF,bP];simp only[ae,ah,iZ] at a1 ⊢;generalize s.map ah=rr at*;generalize l.map ah=rl at*;generalize l[i].flags.map aR=rf at*;simp (maxSteps:=9^9) [cQ.l1,aa,hi,hrow,a1,c,e5,e6,e9,ab]
   ·simp only[c,decide_false,au,if_false,Ka];simp only[ae,ah,iZ] at a1 ⊢;generalize s.map ah=rr at*;generalize l.map ah=rl at*;generalize l[i].flags.map aR=rf at*;simp (maxSteps:=9^9) [cQ.l1,aa,hi,hrow,a1,c,e5])
  (fun s x hs=>by
   obtain⟨v,n⟩:=x;simp only[aE,Ka,LM,ae];generalize l.map ah=rl at*;simp (maxSteps:=9^9) [cQ.l1,aa,hrow]) (l.filter (fun y=>decide (y.uid≤m.uid))++[m]) (by have:=bQ (fun y:bo=>decide (y.uid≤m.uid)) l;simp;omega)
 rw[pJ] at hr hr';have hr0:=hr (2000032,2000080);generalize g (2000032,2000080)=y at*;obtain⟨v1,n1⟩:=y;have hr1:=hr' (n1+48,n1+96);generalize g' (n1+48,n1+96)=y at*;obtain⟨v2,n2⟩:=y;have e1:(l.filter (fun y=>decide (y.uid≤m.uid))).length≤16777216:=Nat.le_trans (bQ _ _) hl;have e2:(l.filter (fun y=>decide (m.uid<y.uid))).length≤16777216:=Nat.le_trans (bQ _ _) hl;simp only[Kb,LP,Ka,LM,List.nil_append,cH,bE,bJ,aF,bP,fE] at hr0 hr1;have e3:((l.filter (fun y=>decide (y.uid≤m.uid))).map ah).length=(l.filter (fun y=>decide (y.uid≤m.uid))).length:=by simp
 have e4:((l.filter (fun y=>decide (m.uid<y.uid))).map ah).length=(l.filter (fun y=>decide (m.uid<y.uid))).length:=by simp
 have ez:((0:Nat):Int)=0:=rfl;simp only[ez] at hr0 hr1;simp only[gX,cH,bE,bJ];simp only[ae,ah,iZ] at*;generalize (l.filter (fun y=>decide (y.uid≤m.uid))).map ah=r1 at*;generalize (l.filter (fun y=>decide (m.uid<y.uid))).map ah=r2 at*;generalize (l.filter (fun y=>decide (y.uid≤m.uid))).length=k1 at*;generalize (l.filter (fun y=>decide (m.uid<y.uid))).length=k2 at*;generalize l.map ah=rl at*;generalize m.flags.map aR=rf at*;have e5:k1+1≤4294967296:=by omega
 have e6:(r1++([I m.gid,I m.uid,T.sl false 3 rf,S m.text]::r2)).take (k1+1+k2)=r1++([I m.gid,I m.uid,T.sl false 3 rf,S m.text]::r2):=ab (by simp;omega);have e7:k1+1+k2≤k1+(k2+1):=by omega
 simp (maxSteps:=9^9) [bl,cQ.m,cQ.b,aa,e7,hr0,hr1,e3,e4,e5,e6,ab]
def Ky(u2 u3:Nat)(a b:bz)(i:Nat)(s:List Int)(x:Nat×Nat):St:={t:=[(2,.c (.ptr 2 u2 0 0)),(3,.c (.ptr 3 u3 0 0)),(5,.c (.row 8 x.1 0 s.length)),(6,.c (I i))],o:=[(2,⟨u2,7,true,true,[af a]⟩),(3,⟨u3,7,true,true,[af b]⟩),(8,⟨x.1,1,true,false,az s⟩)],n:=x.2}
def L0(u2 u3:Nat)(a b:bz)(s:List Int)(x:Nat×Nat):St:={t:=[(2,.c (.ptr 2 u2 0 0)),(3,.c (.ptr 3 u3 0 0)),(5,.c (.row 8 x.1 0 s.length)),(6,.c (I a.ae.length)),(13,.c (.bool false))],o:=[(2,⟨u2,7,true,true,[af a]⟩),(3,⟨u3,7,true,true,[af b]⟩),(8,⟨x.1,1,true,false,az s⟩)],n:=x.2}
def Kx(u3:Nat)(b:bz)(i:Nat)(s:List Int)(x:Nat×Nat):St:={t:=[(3,.c (.ptr 3 u3 0 0)),(5,.c (.row 8 x.1 0 s.length)),(7,.c (I i))],o:=[(3,⟨u3,7,true,true,[af b]⟩),(8,⟨x.1,1,true,false,az s⟩)],n:=x.2}
def LZ(u3:Nat)(b:bz)(s:List Int)(x:Nat×Nat):St:={t:=[(3,.c (.ptr 3 u3 0 0)),(5,.c (.row 8 x.1 0 s.length)),(7,.c (I b.ae.length)),(37,.c (.bool false))],o:=[(3,⟨u3,7,true,true,[af b]⟩),(8,⟨x.1,1,true,false,az s⟩)],n:=x.2}
theorem qP(s:List Int)(x:Int):(jz s x).length≤s.length+1:=by
 unfold jz;split
 ·omega
 ·exact uQ s x
theorem xN(l:List bo)(s:List Int):l.foldl (fun s m=>jz s m.gid) s=(e_ l).foldl jz s:=by
 simp only[e_,List.foldl_map]
theorem cY.ar(h:cY.k M)(a b:bz)(ha:a.ae.length≤1048576)(hb:b.ae.length≤1048576):run M 460 [.a (af a),.a (af b)] []=some (.c (.sl true 1 (az (aQ (e_ a.ae) (e_ b.ae)))),[]):=by
 obtain⟨h0,kin,kput⟩:=h;refine aB (b:=cY.m) h0 ⟨a.ae.length+b.ae.length+1, ?_⟩;generalize hK:a.ae.length+b.ae.length+1=K;have hra:(a.ae.map ah).length=a.ae.length:=by simp
 have hrb:(b.ae.map ah).length=b.ae.length:=by simp
 obtain⟨g,hr⟩:=iS (f:=ct (run M) K cY.l0) a.ae (fun s m=>jz s m.gid) (fun i s=>s.length≤i) (Ky 2000000 2000016 a b) 0 (L0 2000000 2000016 a b)
  (fun i h s hs=>by have:=qP s a.ae[i].gid;omega)
  (fun i hi s x hs=>by
   obtain⟨v,n⟩:=x;have e5:=cA (i:=i) (by omega);have e9:=aM s;have h1:=bf.ar kin s a.ae[i].gid (by omega);have h2:=bX.ar kput s a.ae[i].gid (by omega);have a1:∀hh,(a.ae.map ah)[i]'hh=ah a.ae[i]:=by intro hh;simp
   have e10:=aM (jU s a.ae[i].gid);have hfl:=jR (jU s a.ae[i].gid);simp only[aE,jz];by_cases c:a.ae[i].gid∈s
   ·rw[decide_eq_true c] at h1;rw[if_pos c];simp only[Ky];simp only[af,ae,ints,ah,iZ] at a1 h1 ⊢;generalize az s=rs at*;generalize a.ae.map ah=ra at*;generalize b.ae.map ah=rb at*;simp (maxSteps:=9^9) [cY.l0,hra,hi,h1,a1,e5,e9,ab]
   ·rw[decide_eq_false c] at h1;rw[if_neg c];simp only[Ky];simp only[af,ae,ints,ah,iZ] at a1 h1 h2 ⊢;generalize az (jU s a.ae[i].gid)=rp at*;generalize az s=rs at*;generalize a.ae.map ah=ra at*;generalize b.ae.map ah=rb at*;simp (maxSteps:=9^9) [cY.l0,hra,hi,h1,h2,a1,e5,e9,e10,hfl,ab])
  (fun s x hs=>by
   obtain⟨v,n⟩:=x;simp only[aE,Ky,L0,af,ae,ints];generalize a.ae.map ah=ra at*;generalize b.ae.map ah=rb at*;simp (maxSteps:=9^9) [cY.l0,hra]) [] (by simp)
 obtain⟨g',hr'⟩:=iS (f:=ct (run M) K cY.l1) b.ae (fun s m=>jz s m.gid) (fun i s=>s.length≤a.ae.length+i) (Kx 2000016 b) 2 (LZ 2000016 b)
  (fun i h s hs=>by have:=qP s b.ae[i].gid;omega)
  (fun i hi s x hs=>by
   obtain⟨v,n⟩:=x;have e5:=cA (i:=i) (by omega);have e9:=aM s;have h1:=bf.ar kin s b.ae[i].gid (by omega);have h2:=bX.ar kput s b.ae[i].gid (by omega);have a1:∀hh,(b.ae.map ah)[i]'hh=ah b.ae[i]:=by intro hh;simp
   have e10:=aM (jU s b.ae[i].gid);have hfl:=jR (jU s b.ae[i].gid);simp only[aE,jz];by_cases c:b.ae[i].gid∈s
   ·rw[decide_eq_true c] at h1;rw[if_pos c];simp only[Kx];simp only[af,ae,ints,ah,iZ] at a1 h1 ⊢;generalize az s=rs at*;generalize b.ae.map ah=rb at*;simp (maxSteps:=9^9) [cY.l1,hrb,hi,h1,a1,e5,e9,ab]
   ·rw[decide_eq_false c] at h1;rw[if_neg c];simp only[Kx];simp only[af,ae,ints,ah,iZ] at a1 h1 h2 ⊢;generalize az (jU s b.ae[i].gid)=rp at*;generalize az s=rs at*;generalize b.ae.map ah=rb at*;simp (maxSteps:=9^9) [cY.l1,hrb,hi,h1,h2,a1,e5,e9,e10,hfl,ab])
  (fun s x hs=>by
   obtain⟨v,n⟩:=x;simp only[aE,Kx,LZ,af,ae,ints];generalize b.ae.map ah=rb at*;simp (maxSteps:=9^9) [cY.l1,hrb]) (a.ae.foldl (fun s m=>jz s m.gid) []) (by
    have:=tj a.ae (fun s m=>jz s m.gid) (fun i s=>s.length≤i) (fun i h s hs=>by have:=qP s a.ae[i].gid;omega) [] (by simp);omega)
 have hj:aQ (e_ a.ae) (e_ b.ae)=b.ae.foldl (fun s m=>jz s m.gid) (a.ae.foldl (fun s m=>jz s m.gid) []):=by
  rw[xN,xN,aQ,List.foldl_append]
 rw[hj];clear hj;have hr0:=gd (hr (2000048,2000096)) (show a.ae.length+1≤K by omega);generalize g (2000048,2000096)=y at*;obtain⟨v1,n1⟩:=y;have hr1:=gd (hr' (v1,n1+16)) (show b.ae.length+1≤K by omega);generalize g' (v1,n1+16)=y at*;obtain⟨v2,n2⟩:=y;generalize hs1:a.ae.foldl (fun s m=>jz s m.gid) []=s1 at*;generalize hs2:b.ae.foldl (fun s m=>jz s m.gid) s1=s2 at*;have ez:((0:Nat):Int)=0:=rfl;have e10:=aM s2;simp only[Ky,L0,Kx,LZ,ez,fE,mL] at hr0 hr1;simp only[af,ae,ints] at*;generalize az s1=r1 at*;generalize az s2=r2 at*;generalize a.ae.map ah=ra at*;generalize b.ae.map ah=rb at*;simp (maxSteps:=9^9) [bl,cY.m,cY.b,aa,hr0,hr1,e10,ab]
def H7(u2 u3:Nat)(a b:bz)(v:Nat)(L:List bo):List (Nat×Ob):=[(2,⟨u2,7,true,true,[af a]⟩),(3,⟨u3,7,true,true,[af b]⟩),(17,⟨v,4,true,false,L.map ah⟩)]
def Ai(u2 u3:Nat)(a b:bz)(G:List Int)(i:Nat)(s:List bo×Int)(x:Nat×Nat):St:={t:=[(2,.c (.ptr 2 u2 0 0)),(3,.c (.ptr 3 u3 0 0)),(6,.c (I s.2)),(7,.c (.row 17 x.1 0 s.1.length)),(8,.c (ints G)),(9,.c (I i))],o:=H7 u2 u3 a b x.1 s.1,n:=x.2}
def KO(u2 u3:Nat)(a b:bz)(G:List Int)(s:List bo×Int)(x:Nat×Nat):St:={t:=[(2,.c (.ptr 2 u2 0 0)),(3,.c (.ptr 3 u3 0 0)),(6,.c (I s.2)),(7,.c (.row 17 x.1 0 s.1.length)),(8,.c (ints G)),(9,.c (I G.length)),(24,.c (.bool false))],o:=H7 u2 u3 a b x.1 s.1,n:=x.2}
structure KG (M:Nat→Option Body):Prop where
 keeps:dA.k M
 at_:bM.k M
 FP:bf.k M
 copy:fq.k M
 join:ff.k M
 put:cQ.k M
theorem holds_of{a:bz}{g:Int}:holds a g=(fD a.ae g).isSome:=by
 unfold holds;cases fD a.ae g with
 |none=>rfl
 |some k=>exact decide_eq_true (Int.natCast_nonneg k)
theorem BK(K:KG M)(k u2 u3:Nat)(a b:bz)(ha:gT a)(hb:gT b)(G:List Int)(hG:G.length≤4194304)(i:Nat)(hi:i<G.length)(s:List bo×Int)(x:Nat×Nat)(c:G[i]∈a.gone∨G[i]∈b.gone):
  ∃y,ct (run M) k cS.l0 (Ai u2 u3 a b G i s x)=some (.normal,Ai u2 u3 a b G (i+1) s y):=by
 obtain⟨v,n⟩:=x;obtain⟨L,nx⟩:=s;have h1:=bf.ar K.FP a.gone G[i] (by have:=ha.g;omega);have h2:=bf.ar K.FP b.gone G[i] (by have:=hb.g;omega);have e5:=cA (i:=i) (by omega);have eg:=aM G;have a0:∀hh,(az G)[i]'hh=[I G[i]]:=by intro hh;simp[az]
 have hcd:G[i]∈a.gone∨¬G[i]∈a.gone∧G[i]∈b.gone:=by
  by_cases q:G[i]∈a.gone
  ·exact .inl q
  ·exact .inr ⟨q,c.resolve_left q⟩
 simp only[aE,Ai,H7];rcases hcd with q|⟨q1,q2⟩
 ·rw[decide_eq_true q] at h1;simp only[af,ae,ints] at*;generalize az G=rg at*;generalize az a.gone=ga at*;generalize az b.gone=gb at*;generalize a.ae.map ah=ra at*;generalize b.ae.map ah=rb at*;generalize L.map ah=rl at*;simp (maxSteps:=9^9) [cS.l0,aa,hi,h1,e5,eg,a0]
 ·rw[decide_eq_false q1] at h1;rw[decide_eq_true q2] at h2;simp only[af,ae,ints] at*;generalize az G=rg at*;generalize az a.gone=ga at*;generalize az b.gone=gb at*;generalize a.ae.map ah=ra at*;generalize b.ae.map ah=rb at*;generalize L.map ah=rl at*;simp (maxSteps:=9^9) [cS.l0,aa,hi,h1,h2,e5,eg,a0]
theorem IC(k u2 u3:Nat)(a b:bz)(G:List Int)(s:List bo×Int)(x:Nat×Nat):
  ∃y,ct (run M) k cS.l0 (Ai u2 u3 a b G G.length s x)=some (.exit 0,KO u2 u3 a b G s y):=by
 obtain⟨v,n⟩:=x;obtain⟨L,nx⟩:=s;have eg:=aM G;simp only[aE,Ai,KO,H7];simp only[af,ae,ints] at*;generalize az G=rg at*;generalize az a.gone=ga at*;generalize az b.gone=gb at*;generalize a.ae.map ah=ra at*;generalize b.ae.map ah=rb at*;generalize L.map ah=rl at*;simp (maxSteps:=9^9) [cS.l0,aa,eg]
theorem Gj(K:KG M)(k u2 u3:Nat)(a b:bz)(ha:gT a)(hb:gT b)(G:List Int)(hG:G.length≤4194304)(i:Nat)(hi:i<G.length)(s:List bo×Int)(hs:s.1.length≤16777216)(hx: -1000000000≤s.2∧s.2≤1000000000000)(x:Nat×Nat)(c1:¬G[i]∈a.gone)(c2:¬G[i]∈b.gone)
  (p q:Nat) (hp:fD a.ae G[i]=some p) (hq:fD b.ae G[i]=some q):
  ∃y,ct (run M) k cS.l0 (Ai u2 u3 a b G i s x)=some (.normal,Ai u2 u3 a b G (i+1) (ln a b s G[i]) y):=by
 obtain⟨v,n⟩:=x;obtain⟨L,nx⟩:=s;simp only at hs hx;have h1:=bf.ar K.FP a.gone G[i] (by have:=ha.g;omega);have h2:=bf.ar K.FP b.gone G[i] (by have:=hb.g;omega);rw[decide_eq_false c1] at h1;rw[decide_eq_false c2] at h2;have h3:=bM.ar K.at_ a G[i] ha.m;have h4:=bM.ar K.at_ b G[i] hb.m;rw[hp] at h3;rw[hq] at h4;obtain⟨hp1,hp2⟩:=ly hp;obtain⟨hq1,hq2⟩:=ly hq;have h5:=ff.ar K.join a.ae[p] b.ae[q] (ha.f _ (ax hp1)) (hb.f _ (ax hq1));have h6:=dA.ar K.keeps a b G[i] ha.m hb.m;have h7:=dA.ar K.keeps b a G[i] hb.m ha.m;have h8:=cQ.ar K.put L (gW a.ae[p] b.ae[q]) hs;have h9:=cQ.ar K.put L {gW a.ae[p] b.ae[q] with uid:=nx} hs
 have e5:=cA (i:=i) (by omega);have e6:IntKind.i64.wrap (nx+1)=nx+1:=wrap_i64 (by omega) (by omega);have eg:=aM G;have a0:∀hh,(az G)[i]'hh=[I G[i]]:=by intro hh;simp[az]
 have a1:∀hh,(a.ae.map ah)[p]'hh=ah a.ae[p]:=by intro hh;simp
 have a2:∀hh,(b.ae.map ah)[q]'hh=ah b.ae[q]:=by intro hh;simp
 have el:(L.map ah).length=L.length:=by simp
 have eA:(a.ae.map ah).length=a.ae.length:=by simp
 have eB:(b.ae.map ah).length=b.ae.length:=by simp
 have l8:((gX (fun m:bo=>m.uid) L (gW a.ae[p] b.ae[q])).map ah).length=(gX (fun m:bo=>m.uid) L (gW a.ae[p] b.ae[q])).length:=by simp
 have l9:((gX (fun m:bo=>m.uid) L {gW a.ae[p] b.ae[q] with uid:=nx}).map ah).length=(gX (fun m:bo=>m.uid) L {gW a.ae[p] b.ae[q] with uid:=nx}).length:=by simp
 have hst:ln a b (L,nx) G[i]=if(!iN a b G[i]|| !iN b a G[i])=true then(gX (fun m:bo=>m.uid) L {gW a.ae[p] b.ae[q] with uid:=nx},nx+1) else(gX (fun m:bo=>m.uid) L (gW a.ae[p] b.ae[q]),nx):=by
  have e1:iJ a b G[i]=(!iN a b G[i]|| !iN b a G[i]):=by simp[iJ,holds_of,hp,hq]
  have e2:me a.ae b.ae G[i]=gW a.ae[p] b.ae[q]:=by simp[me,hp2,hq2]
  simp only[ln];rw[if_neg (by simp[c1,c2]),e1,e2]
 rw[hst];clear hst hp hq hp2 hq2 c1 c2;simp only[aE,Ai,H7];simp only[af,ae,ints,dy,ah,iv,iZ] at*;generalize iN a b G[i]=w1 at*;generalize iN b a G[i]=w2 at*;generalize gW a.ae[p] b.ae[q]=m at*;generalize gX (fun m:bo=>m.uid) L {m with uid:=nx}=L9 at*
 generalize gX (fun m:bo=>m.uid) L m=L8 at*;generalize a.ae[p]=ma at*;generalize b.ae[q]=mb at*;generalize G[i]=g at*;generalize az G=rg at*;generalize az a.gone=ga at*;generalize az b.gone=gb at*;generalize a.ae.map ah=ra at*;generalize b.ae.map ah=rb at*;generalize L.map ah=rl at*;generalize m.flags.map aR=rm at*;generalize ma.flags.map aR=rma at*;generalize mb.flags.map aR=rmb at*;cases w1<;>cases w2<;>simp (maxSteps:=9^9) [cS.l0,aa,setAt,hi,hp1,hq1,h1,h2,h3,h4,h5,h6,h7,h8,h9,e5,e6,eg,a0,a1,a2,el,eA,eB,l8,l9,ab]
theorem Lt(K:KG M)(k u2 u3:Nat)(a b:bz)(ha:gT a)(hb:gT b)(G:List Int)(hG:G.length≤4194304)(i:Nat)(hi:i<G.length)(s:List bo×Int)(hs:s.1.length≤16777216)(hx: -1000000000≤s.2∧s.2≤1000000000000)(x:Nat×Nat)(c1:¬G[i]∈a.gone)(c2:¬G[i]∈b.gone)
  (p:Nat) (hp:fD a.ae G[i]=some p) (hq:fD b.ae G[i]=none):
  ∃y,ct (run M) k cS.l0 (Ai u2 u3 a b G i s x)=some (.normal,Ai u2 u3 a b G (i+1) (ln a b s G[i]) y):=by
 obtain⟨v,n⟩:=x;obtain⟨L,nx⟩:=s;simp only at hs hx;have h1:=bf.ar K.FP a.gone G[i] (by have:=ha.g;omega);have h2:=bf.ar K.FP b.gone G[i] (by have:=hb.g;omega);rw[decide_eq_false c1] at h1;rw[decide_eq_false c2] at h2;have h3:=bM.ar K.at_ a G[i] ha.m;have h4:=bM.ar K.at_ b G[i] hb.m;rw[hp] at h3;rw[hq] at h4;obtain⟨hp1,hp2⟩:=ly hp;have hq2:=nv.1 hq;have h5:=fq.ar K.copy a.ae[p] (ha.f _ (ax hp1));have h6:=dA.ar K.keeps a b G[i] ha.m hb.m;have h8:=cQ.ar K.put L a.ae[p] hs;have h9:=cQ.ar K.put L {a.ae[p] with uid:=nx} hs
 have e5:=cA (i:=i) (by omega);have e6:IntKind.i64.wrap (nx+1)=nx+1:=wrap_i64 (by omega) (by omega);have eg:=aM G;have a0:∀hh,(az G)[i]'hh=[I G[i]]:=by intro hh;simp[az]
 have a1:∀hh,(a.ae.map ah)[p]'hh=ah a.ae[p]:=by intro hh;simp
 have el:(L.map ah).length=L.length:=by simp
 have eA:(a.ae.map ah).length=a.ae.length:=by simp
 have eB:(b.ae.map ah).length=b.ae.length:=by simp
 have l8:((gX (fun m:bo=>m.uid) L a.ae[p]).map ah).length=(gX (fun m:bo=>m.uid) L a.ae[p]).length:=by simp
 have l9:((gX (fun m:bo=>m.uid) L {a.ae[p] with uid:=nx}).map ah).length=(gX (fun m:bo=>m.uid) L {a.ae[p] with uid:=nx}).length:=by simp
 have hst:ln a b (L,nx) G[i]=if(!iN a b G[i])=true then(gX (fun m:bo=>m.uid) L {a.ae[p] with uid:=nx},nx+1) else(gX (fun m:bo=>m.uid) L a.ae[p],nx):=by
  have e1:iJ a b G[i]=(!iN a b G[i]):=by simp[iJ,holds_of,hp,hq]
  have e2:me a.ae b.ae G[i]=a.ae[p]:=by simp[me,hp2,hq2]
  simp only[ln];rw[if_neg (by simp[c1,c2]),e1,e2]
 rw[hst];clear hst hp hq hp2 hq2 c1 c2;simp only[aE,Ai,H7];simp only[af,ae,ints,dy,ah,iv,iZ] at*;generalize iN a b G[i]=w1 at*;generalize a.ae[p]=m at*;generalize gX (fun m:bo=>m.uid) L {m with uid:=nx}=L9 at*
 generalize gX (fun m:bo=>m.uid) L m=L8 at*;generalize G[i]=g at*;generalize az G=rg at*;generalize az a.gone=ga at*;generalize az b.gone=gb at*;generalize a.ae.map ah=ra at*;generalize b.ae.map ah=rb at*;generalize L.map ah=rl at*;generalize m.flags.map aR=rm at*;cases w1<;>simp (maxSteps:=9^9) [cS.l0,aa,setAt,hi,hp1,h1,h2,h3,h4,h5,h6,h8,h9,e5,e6,eg,a0,a1,el,eA,l8,l9,ab]
theorem Ls(K:KG M)(k u2 u3:Nat)(a b:bz)(ha:gT a)(hb:gT b)(G:List Int)(hG:G.length≤4194304)(i:Nat)(hi:i<G.length)(s:List bo×Int)(hs:s.1.length≤16777216)(hx: -1000000000≤s.2∧s.2≤1000000000000)(x:Nat×Nat)(c1:¬G[i]∈a.gone)(c2:¬G[i]∈b.gone)
  (q:Nat) (hp:fD a.ae G[i]=none) (hq:fD b.ae G[i]=some q):
  ∃y,ct (run M) k cS.l0 (Ai u2 u3 a b G i s x)=some (.normal,Ai u2 u3 a b G (i+1) (ln a b s G[i]) y):=by
 obtain⟨v,n⟩:=x;obtain⟨L,nx⟩:=s;simp only at hs hx;have h1:=bf.ar K.FP a.gone G[i] (by have:=ha.g;omega);have h2:=bf.ar K.FP b.gone G[i] (by have:=hb.g;omega);rw[decide_eq_false c1] at h1;rw[decide_eq_false c2] at h2;have h3:=bM.ar K.at_ a G[i] ha.m;have h4:=bM.ar K.at_ b G[i] hb.m;rw[hp] at h3;rw[hq] at h4;have hp2:=nv.1 hp;obtain⟨hq1,hq2⟩:=ly hq;have h5:=fq.ar K.copy b.ae[q] (hb.f _ (ax hq1));have h7:=dA.ar K.keeps b a G[i] hb.m ha.m;have h8:=cQ.ar K.put L b.ae[q] hs;have h9:=cQ.ar K.put L {b.ae[q] with uid:=nx} hs
 have e5:=cA (i:=i) (by omega);have e6:IntKind.i64.wrap (nx+1)=nx+1:=wrap_i64 (by omega) (by omega);have eg:=aM G;have a0:∀hh,(az G)[i]'hh=[I G[i]]:=by intro hh;simp[az]
 have a2:∀hh,(b.ae.map ah)[q]'hh=ah b.ae[q]:=by intro hh;simp
 have el:(L.map ah).length=L.length:=by simp
 have eA:(a.ae.map ah).length=a.ae.length:=by simp
 have eB:(b.ae.map ah).length=b.ae.length:=by simp
 have l8:((gX (fun m:bo=>m.uid) L b.ae[q]).map ah).length=(gX (fun m:bo=>m.uid) L b.ae[q]).length:=by simp
 have l9:((gX (fun m:bo=>m.uid) L {b.ae[q] with uid:=nx}).map ah).length=(gX (fun m:bo=>m.uid) L {b.ae[q] with uid:=nx}).length:=by simp
 have hst:ln a b (L,nx) G[i]=if(!iN b a G[i])=true then(gX (fun m:bo=>m.uid) L {b.ae[q] with uid:=nx},nx+1) else(gX (fun m:bo=>m.uid) L b.ae[q],nx):=by
  have e1:iJ a b G[i]=(!iN b a G[i]):=by simp[iJ,holds_of,hp,hq]
  have e2:me a.ae b.ae G[i]=b.ae[q]:=by simp[me,hp2,hq2]
  simp only[ln];rw[if_neg (by simp[c1,c2]),e1,e2]
 rw[hst];clear hst hp hq hp2 hq2 c1 c2;simp only[aE,Ai,H7];simp only[af,ae,ints,dy,ah,iv,iZ] at*;generalize iN b a G[i]=w2 at*;generalize b.ae[q]=m at*;generalize gX (fun m:bo=>m.uid) L {m with uid:=nx}=L9 at*
 generalize gX (fun m:bo=>m.uid) L m=L8 at*;generalize G[i]=g at*;generalize az G=rg at*;generalize az a.gone=ga at*;generalize az b.gone=gb at*;generalize a.ae.map ah=ra at*;generalize b.ae.map ah=rb at*;generalize L.map ah=rl at*;generalize m.flags.map aR=rm at*;cases w2<;>simp (maxSteps:=9^9) [cS.l0,aa,setAt,hi,hq1,h1,h2,h3,h4,h5,h7,h8,h9,e5,e6,eg,a0,a2,el,eB,l8,l9,ab]
theorem CG(a b:bz)(s:List bo×Int)(g:Int):(ln a b s g).1.length≤s.1.length+1∧s.2≤(ln a b s g).2∧(ln a b s g).2≤s.2+1:=by
 have h:∀(L:List bo) (m:bo),(gX (fun m:bo=>m.uid) L m).length=L.length+1:=fun L m=>by
  have:=(vW (k:=fun m:bo=>m.uid) L m).length_eq;simpa using this
 unfold ln;split
 ·omega
 ·split
  ·simp only[h];omega
  ·simp only[h];omega
theorem cS.ar(h:cS.k M)(a b:bz)(ha:gT a)(hb:gT b)(hna: -1000000000≤a.next∧a.next≤1000000000)(hnb: -1000000000≤b.next∧b.next≤1000000000):
  run M 439 [.a (af a),.a (af b)] []=some (.ll [.c (.sl true 4 ((iK a b).1.map ah)),.c (I (iK a b).2)],[]):=by
 obtain⟨h0,kk,ka,ki,kc,kn,kg,kj,kp⟩:=h;have K:KG M:=⟨kk,ka,ki,kc,kj,kp⟩;have h1:=gE.ar kn a b;have h2:=cY.ar kg a b ha.m hb.m;have hG:(aQ (e_ a.ae) (e_ b.ae)).length≤4194304:=by
  have:=jD (e_ a.ae) (e_ b.ae);have e1:(e_ a.ae).length=a.ae.length:=by simp[e_]
  have e2:(e_ b.ae).length=b.ae.length:=by simp[e_]
  have:=ha.m;have:=hb.m;omega
 have hmem:∀g∈aQ (e_ a.ae) (e_ b.ae),g∈e_ a.ae∨g∈e_ b.ae:=fun g hg=>(iq _ _ _).1 hg
 have hJ:iK a b=(aQ (e_ a.ae) (e_ b.ae)).foldl (ln a b) ([],Max.max a.next b.next):=rfl;rw[hJ];have eg:=aM (aQ (e_ a.ae) (e_ b.ae));clear hJ;generalize aQ (e_ a.ae) (e_ b.ae)=G at*;generalize hmx:Max.max a.next b.next=mx at*;refine aB (b:=cS.m) h0 ⟨G.length+1, ?_⟩;obtain⟨g,hr⟩:=iS (f:=ct (run M) (G.length+1) cS.l0) G (ln a b) (fun i s=>s.1.length≤i∧mx≤s.2∧s.2≤mx+i) (Ai 2000000 2000016 a b G) 0 (KO 2000000 2000016 a b G)
  (fun i hi s hs=>by have:=CG a b s G[i];omega)
  (fun i hi s x hs=>by
   by_cases c1:G[i]∈a.gone
   ·have e:ln a b s G[i]=s:=by unfold ln;rw[if_pos (.inl c1)]
    rw[e];exact BK K _ _ _ a b ha hb G hG i hi s x (.inl c1)
   by_cases c2:G[i]∈b.gone
   ·have e:ln a b s G[i]=s:=by unfold ln;rw[if_pos (.inr c2)]
    rw[e];exact BK K _ _ _ a b ha hb G hG i hi s x (.inr c2)
   cases hp:fD a.ae G[i] with
   |some p=>
    cases hq:fD b.ae G[i] with
    |some q=>exact Gj K _ _ _ a b ha hb G hG i hi s (by omega) (by omega) x c1 c2 p q hp hq
    |none=>exact Lt K _ _ _ a b ha hb G hG i hi s (by omega) (by omega) x c1 c2 p hp hq
   |none=>
    cases hq:fD b.ae G[i] with
    |some q=>exact Ls K _ _ _ a b ha hb G hG i hi s (by omega) (by omega) x c1 c2 q hp hq
    |none=>
     exfalso;rcases hmem _ (ax hi) with z|z
     ·obtain⟨m,hm,e⟩:=List.mem_map.1 z;exact om.1 hp m hm e
     ·obtain⟨m,hm,e⟩:=List.mem_map.1 z;exact om.1 hq m hm e)
  (fun s x hs=>IC _ _ _ a b G s x) ([],mx) ⟨by simp,by simp,by simp⟩
 have hr0:=hr (2000128,2000240);generalize g (2000128,2000240)=y at*;obtain⟨v,n⟩:=y;have el:((G.foldl (ln a b) ([],mx)).1.map ah).length=(G.foldl (ln a b) ([],mx)).1.length:=by simp
 generalize G.foldl (ln a b) ([],mx)=R at*;obtain⟨L,nx⟩:=R;have ez:((0:Nat):Int)=0:=rfl;simp only[Ai,KO,H7,ez,bJ,fE] at hr0;simp only at el ⊢;simp only[af,ae,ints] at*;generalize az G=rg at*;generalize az a.gone=ga at*;generalize az b.gone=gb at*;generalize a.ae.map ah=ra at*;generalize b.ae.map ah=rb at*;generalize L.map ah=rl at*;simp (maxSteps:=9^9) [bl,cS.m,cS.b,aa,hr0,h1,h2,el,ab]
theorem Ep(t w u x:Int)(p:Prop):(jX u x t w=true∨jX t w u x=false∧p)↔(jX u x t w=true∨(t=u∧w=x)∧p):=by
 simp only[td,xJ];by_cases hp:p
 ·simp only[hp,and_true];omega
 ·simp only[hp,and_false,or_false]
theorem yG(a b:bz):gH a b=if a.gid=b.gid then
  {gid:=a.gid,name:=if jX b.time b.eE a.time a.eE=true∨(a.time=b.time∧a.eE=b.eE)∧iY a.name b.name=true then b.name else a.name,
   time:=if jX b.time b.eE a.time a.eE=true∨(a.time=b.time∧a.eE=b.eE)∧iY a.name b.name=true then b.time else a.time,
   eE:=if jX b.time b.eE a.time a.eE=true∨(a.time=b.time∧a.eE=b.eE)∧iY a.name b.name=true then b.eE else a.eE,
   next:=(iK a b).2,ae:=(iK a b).1,gone:=aQ a.gone b.gone} else a:=by
 unfold gH;simp only[Ep a.time a.eE b.time b.eE]
theorem ep.ar(h:ep.k M)(a b:bz)(H:wL a b):run M 405 [.a (af a),.a (af b)] []=some (.a (cd (gH a b)),[]):=by
 obtain⟨h0,kg,kc,kl,kj⟩:=h;have h1:=b6.ar kc a H.ia;have h2:=aU.ar kg a.gone b.gone H.ia.g H.ib.g;have h3:=gL.ar kl b.time b.eE a.time a.eE;have h5:=cS.ar kj a b H.ia H.ib H.xa H.xb;have e1:(aQ a.gone b.gone).length≤4194304:=by
  have:=jD a.gone b.gone;have:=H.ia.g;have:=H.ib.g;omega
 have e2:=aM (aQ a.gone b.gone);have e3:((iK a b).1.map ah).length=(iK a b).1.length:=by simp
 have e4:(a.ae.map ah).length=a.ae.length:=by simp
 have e5:=aM a.gone;have e6:=tF a.name b.name;refine aB (b:=ep.m) h0 ⟨0, ?_⟩;rw[yG];by_cases c:a.gid=b.gid
 ·rw[if_pos c];simp only[af,cd,ae,ints] at*;rw[c] at h5;generalize hx:jX b.time b.eE a.time a.eE=x at*;generalize hw:iY a.name b.name=w at*;generalize (iK a b).1.map ah=rj at*;generalize (iK a b).1.length=nj at*;generalize (iK a b).2=xj at*;generalize az (aQ a.gone b.gone)=gj at*;generalize a.ae.map ah=ra at*;generalize b.ae.map ah=rb at*;generalize az a.gone=ga at*;generalize az b.gone=gb at*;clear hx hw;obtain⟨ag,an,at',aw,anx,am,ago⟩:=a;obtain⟨bg,bn,bt,bw,bnx,bm,bgo⟩:=b;simp only at*;cases x
  ·by_cases c2:at'=bt
   ·subst c2;by_cases c3:aw=bw
    ·subst c3;cases w<;>simp (maxSteps:=9^9) [bl,ep.m,ep.b,aa,setAt,h2,h3,h5,c,e2,e3,e6,ab]
    ·simp (maxSteps:=9^9) [bl,ep.m,ep.b,aa,setAt,h2,h3,h5,c,c3,e2,e3,ab]
   ·simp (maxSteps:=9^9) [bl,ep.m,ep.b,aa,setAt,h2,h3,h5,c,c2,e2,e3,ab]
  ·simp (maxSteps:=9^9) [bl,ep.m,ep.b,aa,setAt,h2,h3,h5,c,e2,e3,ab]
 ·rw[if_neg c];simp only[af,cd,ae,ints] at*;generalize a.ae.map ah=ra at*;generalize b.ae.map ah=rb at*;generalize az a.gone=ga at*;generalize az b.gone=gb at*;simp (maxSteps:=9^9) [bl,ep.m,ep.b,aa,setAt,h1,c,e4,e5,ab]
deriving instance DecidableEq for mi
deriving instance DecidableEq for bo
deriving instance DecidableEq for bz
theorem sG{α:Type}[DecidableEq α](la lb:List α)(hl:la.length=lb.length){f:St→Option (Out×St)}{β:Type}(S:Nat→β→St)(c e:Nat)(E:β→St)
  (h1:∀i (h:i<la.length) (h':i<lb.length) x,la[i]=lb[i]→∃y,f (S i x)=some (.normal,S (i+1) y))
  (h2:∀i (h:i<la.length) (h':i<lb.length) x,¬la[i]=lb[i]→∃n,f (S i x)=some (.ret,{t:=[(c,.c (.bool false))],o:=[],n:=n}))
  (h3:∀x,∃y,f (S la.length x)=some (.exit e,E y)):
  ∃g:β→β×Nat,∀x,eG f (la.length+1) (S 0 x)=some (if la=lb then(.exit e,E (g x).1) else(.ret,{t:=[(c,.c (.bool false))],o:=[],n:=(g x).2})):=by
 have key:=ji (f:=f) S (fun i=>i≤la.length) (fun i=>la.length-i) (fun i=>decide (la.drop i=lb.drop i))
  (fun q (m:β×Nat)=>if q=true then(.exit e,E m.1) else(.ret,{t:=[(c,.c (.bool false))],o:=[],n:=m.2})) (by
   intro i x hi;by_cases hlt:i<la.length
   ·have hlt':i<lb.length:=by omega
    have hd:(la.drop i=lb.drop i)↔(la[i]=lb[i]∧la.drop (i+1)=lb.drop (i+1)):=by
     rw[bA hlt,bA hlt',List.cons.injEq]
    by_cases c':la[i]=lb[i]
    ·obtain⟨y,hy⟩:=h1 i hlt hlt' x c';exact .inl ⟨i+1,y,hy,hlt,by omega,by rw[decide_eq_decide,hd];simp[c']⟩
    ·obtain⟨n,hn⟩:=h2 i hlt hlt' x c';have hf:decide (la.drop i=lb.drop i)=false:=decide_eq_false fun q=>c' (hd.1 q).1
     exact .inr ⟨(x,n),by rw[hn,hf];simp,by rw[hf];simp⟩
   ·have:i=la.length:=by omega
    subst this;obtain⟨y,hy⟩:=h3 x;have hd:lb.drop la.length=[]:=dY (by omega);exact .inr ⟨(y,0),by rw[hy];simp[hd],by simp[hd]⟩) (la.length+1) 0 (Nat.zero_le _) (by omega)
 obtain⟨g,hg⟩:=key;refine⟨g,fun x=> ?_⟩;rw[hg x];simp only[List.drop_zero,decide_eq_true_eq]
theorem Gm{x y:mi}(h1:x.val=y.val)(h2:x.time=y.time)(h3:x.eE=y.eE):x=y:=by
 cases x;cases y;simp_all
theorem Ej{x y:bo}(h1:x.gid=y.gid)(h2:x.uid=y.uid)(h3:x.flags=y.flags)(h4:x.text=y.text):x=y:=by
 cases x;cases y;simp_all
theorem Hy{x y:bz}(h1:x.gid=y.gid)(h2:x.name=y.name)(h3:x.time=y.time)(h3':x.eE=y.eE)(h4:x.next=y.next)(h5:x.ae=y.ae)(h6:x.gone=y.gone):x=y:=by
 cases x;cases y;simp_all
def Jw(a b:bo)(i:Nat)(x:Nat×Nat×Nat):St:={t:=[(2,.c (.ptr 2 x.1 0 0)),(3,.c (.ptr 3 x.2.1 0 0)),(5,.c (I i))],o:=[(2,⟨x.1,4,true,true,[ah a]⟩),(3,⟨x.2.1,4,true,true,[ah b]⟩)],n:=x.2.2}
def Lr(a b:bo)(x:Nat×Nat×Nat):St:={t:=[(2,.c (.ptr 2 x.1 0 0)),(3,.c (.ptr 3 x.2.1 0 0)),(5,.c (I a.flags.length)),(38,.c (.bool false))],o:=[(2,⟨x.1,4,true,true,[ah a]⟩),(3,⟨x.2.1,4,true,true,[ah b]⟩)],n:=x.2.2}
theorem ch.ar(h:ch.k M)(a b:bo)(ha:a.flags.length≤1048576):run M 159 [.a (ah a),.a (ah b)] []=some (.c (.bool (decide (a=b))),[]):=by
 refine aB (b:=ch.m) h ⟨a.flags.length+1, ?_⟩;by_cases c1:a.gid=b.gid;rotate_left
 ·have hne:¬a=b:=fun q=>c1 (by rw[q])
  simp[bl,ch.m,ch.b,aa,c1,hne]
 by_cases c2:a.uid=b.uid;rotate_left
 ·have hne:¬a=b:=fun q=>c2 (by rw[q])
  simp[bl,ch.m,ch.b,aa,c1,c2,hne]
 by_cases c3:a.text=b.text;rotate_left
 ·have hne:¬a=b:=fun q=>c3 (by rw[q])
  simp[bl,ch.m,ch.b,aa,c1,c2,c3,hne]
 by_cases c4:a.flags.length=b.flags.length;rotate_left
 ·have hne:¬a=b:=fun q=>c4 (by rw[q])
  have c4':¬(a.flags.length:Int)=b.flags.length:=by omega
  simp[bl,ch.m,ch.b,aa,c1,c2,c3,c4',hne]
 obtain⟨g,hr⟩:=sG a.flags b.flags c4 (f:=ct (run M) (a.flags.length+1) ch.l0) (Jw a b) 4 0 (Lr a b)
  (fun i hi hi' x c=>by
   obtain⟨v,w,x⟩:=x;have e5:=cA (i:=i) (by omega);simp only[aE];simp[Jw,ch.l0,hi,hi',e5,aR,r_,Al,c])
  (fun i hi hi' x c=>by
   obtain⟨v,w,x⟩:=x;by_cases q1:a.flags[i].val=b.flags[i].val<;>by_cases q2:a.flags[i].time=b.flags[i].time<;>by_cases q3:a.flags[i].eE=b.flags[i].eE<;>
    first
    |exact absurd (Gm q1 q2 q3) c
    |simp[Jw,ch.l0,hi,hi',aR,r_,Al,q1,q2,q3])
  (fun x=>by
   obtain⟨v,w,x⟩:=x;simp only[aE];simp[Jw,Lr,ch.l0])
 by_cases c5:a.flags=b.flags
 ·have he:a=b:=Ej c1 c2 c5 c3;simp only[c5,if_true] at hr;simp[Jw,Lr,ah,←c5] at hr;subst he;simp[bl,ch.m,ch.b,aa,hr]
 ·have hne:¬a=b:=fun q=>c5 (by rw[q])
  simp only[c5,if_false] at hr;simp[Jw,ah,c1,c2,c3,c4] at hr;simp[bl,ch.m,ch.b,aa,ah,c1,c2,c3,c4,hr,hne]
theorem ky.ar(h:ky.k M)(R:List (List T))(hl:R.length≤9223372036854775807):run M 36 [.c (.sl false 1 R)] []=some (.c (.bool (decide (1048576<R.length))),[]):=by
 refine aB (b:=ky.m) h ⟨0, ?_⟩;simp (maxSteps:=9^9) [bl,ky.m,ky.b,aa];omega
theorem ya(l:List bo):(allM l l).length=l.length:=by
 have h:(l.filter fun m=>(je l m.gid).isNone)=[]:=List.filter_eq_nil_iff.2 fun m hm c=>by
  rw[cp] at c;exact nB.1 c m hm rfl
 simp only[allM,aF,fP,h,fE,Nat.add_zero]
theorem vQ{a b:bz}(ha:(e_ a.ae).Nodup)(hb:(e_ b.ae).Nodup):(iK a b).2≤Max.max a.next b.next+(a.ae.length+b.ae.length:Nat):=by
 rw[←o8 ha hb];simp only[nT];have h1:=(l_ (iJ a b) (eT (·.gid) ((allM a.ae b.ae).filter fun m=> !decide (m.gid∈aQ a.gone b.gone))) (Max.max a.next b.next)).2;rw[ij] at h1;have h2:=bQ (fun m:bo=> !decide (m.gid∈aQ a.gone b.gone)) (allM a.ae b.ae);have h3:=Cj a.ae b.ae;omega
theorem yB{a b:bz}(ha:(e_ a.ae).Nodup)(hb:(e_ b.ae).Nodup):(e_ (iK a b).1).Nodup:=
 (yD ha hb).nodup_iff.2 (by
  have:=(mK (e_ a.ae) (e_ b.ae)).filter (fun g=> !decide (g∈aQ a.gone b.gone));exact this.imp fun h=>by omega)
theorem Ab{a b:bz}(ha:Good a)(hb:Good b):wL (gH a b) (gH a b):=by
 have H:=ha.zu hb;have hin:=rO H;have h1:(gH a b).gone.length≤500000:=by
  unfold gH;split
  ·have:=jD a.gone b.gone;have:=ha.mG;have:=hb.mG;simp only;omega
  ·exact H.ga
 have h2:(e_ (gH a b).ae).Nodup:=by
  unfold gH;split
  ·exact yB ha.nd hb.nd
  ·exact ha.nd
 have h3:(gH a b).ae.length≤20:=by
  unfold gH;split
  ·exact sx H
  ·have:=ha.len;omega
 have h4: -1000000000≤(gH a b).next∧(gH a b).next≤1000000000:=by
  have q1:=vQ ha.nd hb.nd;have q2:=zw ha.nd hb.nd;have:=ha.next;have:=hb.next;have:=ha.len;have:=hb.len;unfold gH;split
  ·simp only;omega
  ·omega
 exact⟨hin,hin,h1,h1,h2,h2,by rw[ya];exact h3,h4,h4⟩
def jQ(a b:List bz):List bz:=a.map fun x=>match jS b x.gid with|some y=>gH x y|none=>x
theorem pS(a b:List bz):(jQ a b).length=a.length:=by simp[jQ]
def nG(a b:List bz):List bz:=jQ a b++b.filter fun x=>(jS a x.gid).isNone
def nS(acc:List bz)(x:bz):List bz:=acc++[if(acc.any fun y=>decide (y.name=x.name))=true then {x with name:=jT x.name x.gid} else x]
def po(l:List bz):List bz:=l.foldl nS []
def jY(a b:List bz)(G:List Int):List bz:=po (eT (·.gid) ((nG a b).filter fun x=> !decide (x.gid∈G)))
structure lx (l:List bz):Prop where
 len:l.length≤5
 lf:∀b∈l,Good b
structure DH where
 i:Nat
 v:Nat
 n:Nat
def DE(u5:Nat)(G:List Int)(v:Nat)(rows:List (List T)):List (Nat×Ob):=[(5,⟨u5,1,true,true,[[ints G]]⟩),(16,⟨v,7,true,false,rows⟩)]
def GW(u5:Nat)(a b:List bz)(G:List Int)(s:DH):St:={t:=[(0,.c (boxes a)),(1,.c (boxes b)),(5,.c (.ptr 5 u5 0 0)),(7,.c (.row 16 s.v 0 s.i)),(8,.c (.fn 476 [])),(17,.c (boxes a)),(18,.c (I a.length)),(19,.c (I s.i))],o:=DE u5 G s.v (((jQ a b).take s.i).map af),n:=s.n}
def Km(u5:Nat)(a b:List bz)(G:List Int)(s:DH):St:={t:=[(0,.c (boxes a)),(1,.c (boxes b)),(5,.c (.ptr 5 u5 0 0)),(7,.c (.row 16 s.v 0 s.i)),(8,.c (.fn 476 [])),(17,.c (boxes a)),(18,.c (I a.length)),(19,.c (I s.i)),(20,.c (.bool false))],o:=DE u5 G s.v (((jQ a b).take s.i).map af),n:=s.n}
structure Js (M:Nat→Option Body):Prop where
 copy:cq.k M
 join:gn.k M
 at_:eD.k M
 del:aD.k M
 c2:eZ.k M
 sort:a8.k M
 c3:eY.k M
 has:bd.k M
 c4:eX.k M
 name:cG.k M
theorem GU(K:Js M)(k u5:Nat)(a b:List bz)(G:List Int)(ha:lx a)(hb:lx b)(s:DH)(hs:s.i<a.length):
  ∃v' n',ct (run M) k bq.l0 (GW u5 a b G s)=some (.normal,GW u5 a b G ⟨s.i+1,v',n'⟩):=by
 obtain⟨i,v,n⟩:=s;simp only at hs;have hla:=ha.len;have hlb:=hb.len;have gx:=ha.lf _ (ax hs);have h1:=eD.ar K.at_ b a[i].gid (by omega);have e5:=cA (i:=i) (by omega);have e6:i+1≤4294967296:=by omega
 have hl:=pS a b;have e7:(((jQ a b).take i).map af).length=i:=by simp[hl];omega
 have e9:(a.map af).length=a.length:=by simp
 have e8:((jQ a b).take (i+1)).map af=((jQ a b).take i).map af++[af (jQ a b)[i]]:=by
  rw[gK _ _ (by rw[hl];exact hs),cH];rfl
 have a1:∀hh,(a.map af)[i]'hh=af a[i]:=by intro hh;simp
 cases hq:kU b a[i].gid with
 |none=>
  rw[hq] at h1;have h2:=cq.ar K.copy a[i] gx.th;have ef:(jQ a b)[i]'(by rw[hl];exact hs)=a[i]:=by
   simp only[jQ,fA,oe hq]
  rw[ef] at e8;simp only[GW,DE,e8];simp only[af,cd,boxes,ae,ints,dy] at h1 h2 a1 ⊢;generalize List.map af ((jQ a b).take i)=rr at*;generalize a.map af=ra at*;generalize b.map af=rb at*;generalize a[i].ae.map ah=rm at*;generalize az a[i].gone=rg at*;generalize az G=gj at*;simp (maxSteps:=9^9) [bq.l0,aa,setAt,h1,h2,hs,e5,e6,e7,e9,a1,ab]
 |some q=>
  rw[hq] at h1;obtain⟨hq1,hq2⟩:=iB hq;have gy:=hb.lf _ (ax hq1);have h3:=gn.ar K.join a[i] b[q] (gx.zu gy);have h2:=cq.ar K.copy (gH a[i] b[q]) (rO (gx.zu gy));have ef:(jQ a b)[i]'(by rw[hl];exact hs)=gH a[i] b[q]:=by
   simp only[jQ,fA,hq2]
  rw[ef] at e8;have e10:(b.map af).length=b.length:=by simp
  have a2:∀hh,(b.map af)[q]'hh=af b[q]:=by intro hh;simp
  simp only[GW,DE,e8];simp only[af,cd,boxes,ae,ints,dy] at h1 h2 h3 a1 a2 ⊢;generalize gH a[i] b[q]=j at*;generalize List.map af ((jQ a b).take i)=rr at*;generalize a.map af=ra at*;generalize b.map af=rb at*;generalize a[i].ae.map ah=rm at*;generalize az a[i].gone=rg at*;generalize b[q].ae.map ah=rmb at*;generalize az b[q].gone=rgb at*;generalize j.ae.map ah=rmj at*;generalize az j.gone=rgj at*;generalize az G=gj at*;simp (maxSteps:=9^9) [bq.l0,aa,setAt,h1,h2,h3,hs,hq1,e5,e6,e7,e9,e10,a1,a2,ab]
theorem I1(k u5:Nat)(a b:List bz)(G:List Int)(s:DH)(hs:¬s.i<a.length):
  ∃n',ct (run M) k bq.l0 (GW u5 a b G s)=some (.exit 0,Km u5 a b G ⟨s.i,s.v,n'⟩):=by
 obtain⟨i,v,n⟩:=s;simp only at hs;simp only[GW,Km,DE];generalize List.map af ((jQ a b).take i)=rr at*;simp only[boxes,ints];generalize a.map af=ra at*;generalize b.map af=rb at*;simp (maxSteps:=9^9) [bq.l0,aa,hs]
def ml(a b:List bz)(i:Nat):List bz:=jQ a b++(b.take i).filter fun x=>(jS a x.gid).isNone
theorem CD(a b:List bz):ml a b b.length=nG a b:=by simp[ml,nG]
theorem Aq(a b:List bz):ml a b 0=jQ a b:=by simp[ml]
theorem CC(a b:List bz)(i:Nat)(hi:i≤b.length):(ml a b i).length≤a.length+i:=by
 have:=bQ (fun x:bz=>(jS a x.gid).isNone) (b.take i);simp only[ml,aF,pS];simp at this;omega
def GS(u5:Nat)(a b:List bz)(G:List Int)(s:DH):St:={t:=[(0,.c (boxes a)),(5,.c (.ptr 5 u5 0 0)),(7,.c (.row 16 s.v 0 (ml a b s.i).length)),(8,.c (.fn 476 [])),(42,.c (boxes b)),(43,.c (I b.length)),(44,.c (I s.i))],o:=DE u5 G s.v ((ml a b s.i).map af),n:=s.n}
def Kl(u5:Nat)(a b:List bz)(G:List Int)(s:DH):St:={t:=[(0,.c (boxes a)),(5,.c (.ptr 5 u5 0 0)),(7,.c (.row 16 s.v 0 (ml a b s.i).length)),(8,.c (.fn 476 [])),(42,.c (boxes b)),(43,.c (I b.length)),(44,.c (I s.i)),(45,.c (.bool false))],o:=DE u5 G s.v ((ml a b s.i).map af),n:=s.n}
theorem GQ(K:Js M)(k u5:Nat)(a b:List bz)(G:List Int)(ha:lx a)(hb:lx b)(s:DH)(hs:s.i<b.length):
  ∃v' n',ct (run M) k bq.l1 (GS u5 a b G s)=some (.normal,GS u5 a b G ⟨s.i+1,v',n'⟩):=by
 obtain⟨i,v,n⟩:=s;simp only at hs;have hla:=ha.len;have hlb:=hb.len;have gx:=hb.lf _ (ax hs);have h1:=eD.ar K.at_ a b[i].gid (by omega);have e5:=cA (i:=i) (by omega);have hl:=CC a b i (by omega);have e7:((ml a b i).map af).length=(ml a b i).length:=by simp
 have e6:(ml a b i).length+1≤4294967296:=by omega
 have e9:(b.map af).length=b.length:=by simp
 have a1:∀hh,(b.map af)[i]'hh=af b[i]:=by intro hh;simp
 have eu:ml a b (i+1)=ml a b i++if(jS a b[i].gid).isNone=true then [b[i]] else []:=by
  simp only[ml,gK _ _ hs,List.filter_append,cP];cases q:(jS a b[i].gid).isNone<;>simp[q]
 cases hq:kU a b[i].gid with
 |some q=>
  rw[hq] at h1;obtain⟨hq1,hq2⟩:=iB hq;have nq:¬(q:Int)<0:=by omega
  rw[hq2] at eu;simp only[Option.isNone_some,au,if_false,dZ] at eu;simp only[GS,DE,eu];simp only[af,boxes,ae,ints,dy] at h1 a1 ⊢;generalize List.map af (ml a b i)=rr at*;generalize (ml a b i).length=nr at*;generalize a.map af=ra at*;generalize b.map af=rb at*;generalize b[i].ae.map ah=rm at*;generalize az b[i].gone=rg at*;generalize az G=gj at*;simp (maxSteps:=9^9) [bq.l1,setAt,h1,hs,nq,e5,e9,a1,ab]
 |none=>
  rw[hq] at h1;have h2:=cq.ar K.copy b[i] gx.th;rw[oe hq] at eu;simp only[Option.isNone_none,if_true] at eu;simp only[GS,DE,eu,cH,bE,bJ,aF,bP];simp only[af,cd,boxes,ae,ints,dy] at h1 h2 a1 ⊢;generalize List.map af (ml a b i)=rr at*;generalize (ml a b i).length=nr at*;generalize a.map af=ra at*;generalize b.map af=rb at*;generalize b[i].ae.map ah=rm at*;generalize az b[i].gone=rg at*;generalize az G=gj at*;simp (maxSteps:=9^9) [bq.l1,setAt,h1,h2,hs,e5,e6,e7,e9,a1,ab]
theorem I0(k u5:Nat)(a b:List bz)(G:List Int)(s:DH)(hs:¬s.i<b.length):
  ∃n',ct (run M) k bq.l1 (GS u5 a b G s)=some (.exit 2,Kl u5 a b G ⟨s.i,s.v,n'⟩):=by
 obtain⟨i,v,n⟩:=s;simp only at hs;simp only[GS,Kl,DE];generalize List.map af (ml a b i)=rr at*;simp only[boxes,ints];generalize a.map af=ra at*;generalize b.map af=rb at*;simp (maxSteps:=9^9) [bq.l1,hs]
def oO(acc:List bz)(x:bz):bz:=if(acc.any fun y=>decide (y.name=x.name))=true then {x with name:=jT x.name x.gid} else x
theorem pG(acc:List bz)(x:bz):nS acc x=acc++[oO acc x]:=rfl
theorem Ea(l:List bz)(x:bz):po (l++[x])=po l++[oO (po l) x]:=by
 unfold po;rw[List.foldl_append];rfl
theorem sj:∀(l acc:List bz),(l.foldl nS acc).length=acc.length+l.length
 |[],acc=>by simp
 |x::l,acc=>by
  rw[eH,sj l,pG];simp;omega
theorem j_(l:List bz):(po l).length=l.length:=by unfold po;rw[sj];simp
def iT(l:List bz)(i:Nat):List bz:=po (l.take i)++l.drop i
theorem vt(l:List bz):iT l 0=l:=by simp[iT,po]
theorem xD(l:List bz):iT l l.length=po l:=by simp[iT]
theorem nZ(l:List bz)(i:Nat):(iT l i).length=l.length:=by
 simp only[iT,aF,j_,hZ,List.length_drop];omega
theorem vv(l:List bz)(i:Nat)(h:i<l.length):(iT l i)[i]'(by rw[nZ];exact h)=l[i]:=by
 have e:(po (l.take i)).length=i:=by rw[j_];simp;omega
 simp only[iT];rw[List.getElem_append_right (by omega)];simp[e]
theorem vu(l:List bz)(i:Nat)(h:i<l.length):iT l (i+1)=(iT l i).set i (oO (po (l.take i)) l[i]):=by
 have e:(po (l.take i)).length=i:=by rw[j_];simp;omega
 have hd:l.drop i=l[i]::l.drop (i+1):=bA h;simp only[iT,gK l i h,Ea];rw[List.set_append_right _ _ (by omega),e,Nat.sub_self];simp;rw[hd];rfl
def H8(L:List bz)(Z:List (List T))(s:DH):St:={t:=[(7,.c (.row 16 s.v 0 L.length)),(65,.c (.row 16 s.v 0 L.length)),(66,.c (I L.length)),(67,.c (I s.i))],o:=[(16,⟨s.v,7,true,false,(iT L s.i).map af++Z⟩)],n:=s.n}
def Kk(L:List bz)(Z:List (List T))(s:DH):St:={t:=[(7,.c (.row 16 s.v 0 L.length)),(65,.c (.row 16 s.v 0 L.length)),(66,.c (I L.length)),(67,.c (I s.i)),(68,.c (.bool false))],o:=[(16,⟨s.v,7,true,false,(iT L s.i).map af++Z⟩)],n:=s.n}
theorem GO(K:Js M)(k:Nat)(L:List bz)(Z:List (List T))(hL:L.length≤1048576)(hb:∀b∈L,b.name.length≤1048576∧b.gid≤9223372036854775807)(s:DH)(hs:s.i<L.length):
  ∃n',ct (run M) k bq.l2 (H8 L Z s)=some (.normal,H8 L Z ⟨s.i+1,s.v,n'⟩):=by
 obtain⟨i,v,n⟩:=s;simp only at hs;have hx:=hb _ (ax hs);have hr1:(po (L.take i)).length=i:=by rw[j_];simp;omega
 have h1:=bd.ar K.has (fun y=>eX.ar K.c4 y L[i]) (po (L.take i)) (by omega);have h2:=cG.ar K.name L[i].name L[i].gid hx.1 hx.2;have e5:=cA (i:=i) (by omega);have el:((iT L i).map af).length=L.length:=by simp[nZ]
 have e7:i<((iT L i).map af++Z).length:=by simp[nZ];omega
 have e8:i≤((iT L i).map af++Z).length:=by omega
 have a1:∀hh,((iT L i).map af++Z)[i]'hh=af L[i]:=by
  intro hh;rw[List.getElem_append_left (by omega)];simp only[fA,vv L i hs]
 have e9:((iT L i).map af++Z).take i=(po (L.take i)).map af:=by
  rw[List.take_append_of_le_length (by omega),←List.map_take];congr 1;simp only[iT];rw[List.take_append_of_le_length (by omega)];exact ab (by omega)
 have t3:(iT L (i+1)).map af++Z=((iT L i).map af++Z).set i (af (oO (po (L.take i)) L[i])):=by
  rw[vu L i hs,gZ,List.set_append_left _ _ (by omega)]
 have e10:i≤L.length:=by omega
 simp only[H8,t3];clear t3 el;unfold oO;generalize (po (L.take i)).any (fun y=>decide (y.name=L[i].name))=w at*;simp only[boxes] at h1;generalize (po (L.take i)).map af=rp at*;generalize (iT L i).map af++Z=rr at*;generalize jT L[i].name L[i].gid=nm at*;simp only[af,ae,ints] at h1 a1 ⊢;generalize L[i]=x at*;generalize L.length=N at*;generalize hm:x.ae.map ah=rm at*;generalize hg:az x.gone=rg at*;cases w
 ·simp only[au,if_false];rw[hm,hg];have e11:rr.set i [I x.gid,S x.name,I x.time,I x.eE,I x.next,T.sl false 4 rm,T.sl false 1 rg]=rr:=by
   rw[←a1 e7,List.set_getElem_self]
  rw[e11];simp (maxSteps:=9^9) [bq.l2,setAt,hs,h1,e5,e7,e8,e9,e10,a1,ab]
 ·simp only[if_true];rw[hm,hg];simp (maxSteps:=9^9) [bq.l2,setAt,hs,h1,h2,e5,e7,e8,e9,e10,a1,ab]
theorem IZ(k:Nat)(L:List bz)(Z:List (List T))(s:DH)(hs:¬s.i<L.length):
  ∃n',ct (run M) k bq.l2 (H8 L Z s)=some (.exit 4,Kk L Z ⟨s.i,s.v,n'⟩):=by
 obtain⟨i,v,n⟩:=s;simp only at hs;simp only[H8,Kk];generalize (iT L i).map af++Z=rr at*;simp (maxSteps:=9^9) [bq.l2,hs]
theorem GV(K:Js M)(k u5:Nat)(a b:List bz)(G:List Int)(ha:lx a)(hb:lx b)(v n:Nat)(hk:a.length<k):
  ∃v' n',eG (ct (run M) k bq.l0) k (GW u5 a b G ⟨0,v,n⟩)=some (.exit 0,Km u5 a b G ⟨a.length,v',n'⟩):=by
 obtain⟨r,hr,⟨⟨i,v',n'⟩,rfl,hi⟩⟩:=kq (f:=ct (run M) k bq.l0) (GW u5 a b G) (fun s=>s.i≤a.length) (fun s=>a.length-s.i) (fun r=>∃s',r=(.exit 0,Km u5 a b G s')∧s'.i=a.length)
  (fun s hs=>by
   by_cases c:s.i<a.length
   ·left;obtain⟨v',n',hh⟩:=GU K k u5 a b G ha hb s c;exact⟨_,hh,by simp only;omega,by simp only;omega⟩
   ·right;obtain⟨n',hh⟩:=I1 (M:=M) k u5 a b G s c;exact⟨_,hh,by simp,_,rfl,by simp only;omega⟩) k ⟨0,v,n⟩ (by simp) (by simp only;omega)
 simp only at hi;subst hi;exact⟨v',n',hr⟩
theorem GR(K:Js M)(k u5:Nat)(a b:List bz)(G:List Int)(ha:lx a)(hb:lx b)(v n:Nat)(hk:b.length<k):
  ∃v' n',eG (ct (run M) k bq.l1) k (GS u5 a b G ⟨0,v,n⟩)=some (.exit 2,Kl u5 a b G ⟨b.length,v',n'⟩):=by
 obtain⟨r,hr,⟨⟨i,v',n'⟩,rfl,hi⟩⟩:=kq (f:=ct (run M) k bq.l1) (GS u5 a b G) (fun s=>s.i≤b.length) (fun s=>b.length-s.i) (fun r=>∃s',r=(.exit 2,Kl u5 a b G s')∧s'.i=b.length)
  (fun s hs=>by
   by_cases c:s.i<b.length
   ·left;obtain⟨v',n',hh⟩:=GQ K k u5 a b G ha hb s c;exact⟨_,hh,by simp only;omega,by simp only;omega⟩
   ·right;obtain⟨n',hh⟩:=I0 (M:=M) k u5 a b G s c;exact⟨_,hh,by simp,_,rfl,by simp only;omega⟩) k ⟨0,v,n⟩ (by simp) (by simp only;omega)
 simp only at hi;subst hi;exact⟨v',n',hr⟩
theorem GP(K:Js M)(k:Nat)(L:List bz)(Z:List (List T))(hL:L.length≤1048576)(hb:∀b∈L,b.name.length≤1048576∧b.gid≤9223372036854775807)(v n:Nat)(hk:L.length<k):
  ∃n',eG (ct (run M) k bq.l2) k (H8 L Z ⟨0,v,n⟩)=some (.exit 4,Kk L Z ⟨L.length,v,n'⟩):=by
 obtain⟨r,hr,⟨⟨i,v',n'⟩,rfl,hi,hv⟩⟩:=kq (f:=ct (run M) k bq.l2) (H8 L Z) (fun s=>s.i≤L.length∧s.v=v) (fun s=>L.length-s.i) (fun r=>∃s',r=(.exit 4,Kk L Z s')∧s'.i=L.length∧s'.v=v)
  (fun s hs=>by
   by_cases c:s.i<L.length
   ·left;obtain⟨n',hh⟩:=GO K k L Z hL hb s c;exact⟨_,hh,⟨by simp only;omega,hs.2⟩,by simp only;omega⟩
   ·right;obtain⟨n',hh⟩:=IZ (M:=M) k L Z s c;have:=hs.1;exact⟨_,hh,by simp,_,rfl,by simp only;omega,hs.2⟩) k ⟨0,v,n⟩ ⟨by simp,rfl⟩ (by simp only;omega)
 simp only at hi hv;subst hi;subst hv;exact⟨n',hr⟩
theorem j1{l:List bz}{g:Int}{b:bz}(h:jS l g=some b):b∈l∧b.gid=g:=⟨List.mem_of_find?_eq_some h,by simpa using List.find?_some h⟩
theorem z_{a b:List bz}(x:bz)(h:x∈nG a b):x∈a∨x∈b∨∃y∈a,∃z∈b,y.gid=z.gid∧x=gH y z:=by
 rcases List.mem_append.1 h with q|q
 ·obtain⟨y,hy,e⟩:=List.mem_map.1 q;cases hz:jS b y.gid with
  |none=>rw[hz] at e;simp only at e;subst e;exact .inl hy
  |some z=>
   rw[hz] at e;simp only at e;obtain⟨h1,h2⟩:=j1 hz;exact .inr (.inr ⟨y,hy,z,h1,h2.symm,e.symm⟩)
 ·exact .inr (.inl (List.mem_filter.1 q).1)
theorem pO(a b:bz):(gH a b).name=a.name∨(gH a b).name=b.name:=by
 unfold gH;split
 ·simp only;split
  ·exact .inr rfl
  ·exact .inl rfl
 ·exact .inl rfl
theorem nD(a b:bz):(gH a b).gid=a.gid:=by unfold gH;split<;>rfl
theorem Bu{a b:List bz}(ha:lx a)(hb:lx b)(x:bz)(h:x∈nG a b):x.name.length≤12∧x.gid≤9999:=by
 have hg:∀{c:bz},Good c→c.name.length≤12∧c.gid≤9999:=fun {c} hc=>⟨(mu hc.name).2,hc.gid.2⟩
 rcases z_ x h with q|q|⟨y,hy,z,hz,e,rfl⟩
 ·exact hg (ha.lf x q)
 ·exact hg (hb.lf x q)
 ·have h1:=hg (ha.lf y hy);have h2:=hg (hb.lf z hz);rw[nD];rcases pO y z with q|q<;>rw[q]
  ·exact h1
  ·exact⟨h2.1,h1.2⟩
theorem Aa(a b:List bz):(nG a b).length≤a.length+b.length:=by
 have:=bQ (fun x:bz=>(jS a x.gid).isNone) b;simp only[nG,aF,pS];omega
theorem bq.ar(h:bq.k M)(a b:List bz)(G:List Int)(ha:lx a)(hb:lx b)(hG:G.length≤4194304):
  run M 467 [.c (boxes a),.c (boxes b),.c (ints G)] []=some (.c (.sl true 7 ((jY a b G).map af)),[]):=by
 obtain⟨h0,k1,k2,k3,k4,k5,k6,k7,k8,k9,k10⟩:=h;have K:Js M:=⟨k1,k2,k3,k4,k5,k6,k7,k8,k9,k10⟩;have hla:=ha.len;have hlb:=hb.len;refine aB (b:=bq.m) h0 ⟨a.length+b.length+21, ?_⟩;generalize hk:a.length+b.length+21=k;obtain⟨v1,n1,r1⟩:=GV K k 2000000 a b G ha hb 2000032 2000128 (by omega);obtain⟨v2,n2,r2⟩:=GR K k 2000000 a b G ha hb v1 (n1+48) (by omega);have hc2:=fun x=>eZ.ar k5 x G hG
 have hal:=Aa a b;have h5:=aD.ar k4 hc2 (nG a b) (by omega);have hkl:((nG a b).filter fun x=> !decide (x.gid∈G)).length≤(nG a b).length:=bQ _ _;have hnm:∀x∈eT (fun x:bz=>x.gid) ((nG a b).filter fun x=> !decide (x.gid∈G)),x.name.length≤1048576∧x.gid≤9223372036854775807:=fun x hx=>by
  have:=Bu ha hb x (List.mem_filter.1 (pC.1 hx)).1;omega
 unfold jY;generalize hz:List.replicate ((nG a b).length-((nG a b).filter fun x=> !decide (x.gid∈G)).length) rF=Z at*;generalize hl1:((nG a b).filter fun x=> !decide (x.gid∈G))=l1 at*;have h6:=a8.ar k6 (k:=fun x:bz=>x.gid) (eY.ar k7) l1 Z (by omega);have hl2:(eT (fun x:bz=>x.gid) l1).length=l1.length:=ij _;generalize hs2:eT (fun x:bz=>x.gid) l1=l2 at*;obtain⟨n3,r3⟩:=GP K k l2 Z (by omega) hnm v2 (n2+64+32+48) (by omega);have el0:((nG a b).map af).length=(nG a b).length:=by simp
 have el1:l1.length≤(l1.map af++Z).length:=by simp
 have el2:l1.length≤(l2.map af++Z).length:=by simp[hl2]
 have el4:l1.length≤((po l2).map af++Z).length:=by simp[j_,hl2]
 have el5:(((po l2).map af++Z).take l1.length)=(po l2).map af:=by
  rw[List.take_append_of_le_length (by simp[j_,hl2])];exact ab (by simp[j_,hl2])
 have hfl:=pS a b;have ea:(a.map af).length=a.length:=by simp
 have eb:(b.map af).length=b.length:=by simp
 have ez:((0:Nat):Int)=0:=rfl;have hfa:(jQ a b).take a.length=jQ a b:=ab (by omega);simp only[GW,Km,DE,List.take_zero,bJ,hfa,ez] at r1;simp only[GS,Kl,DE,Aq,CD,hfl,ez] at r2;have hra:iT l2 l1.length=po l2:=by rw[←hl2];exact xD l2
 simp only[H8,Kk,vt,ez,hl2,hra] at r3;simp only[q9,dZ] at h5 h6;generalize (po l2).map af=R4 at*;generalize R4++Z=R4Z at*;generalize l2.map af++Z=R2Z at*;generalize l1.map af++Z=R1Z at*;clear hl1 hs2 hz hc2 K hnm hl2 hra;generalize (nG a b).map af=R0 at*;generalize (nG a b).length=N0 at*;generalize (jQ a b).map af=RF at*;generalize l1.length=N1 at*;simp only[boxes,ints] at*;generalize a.map af=ra at*;generalize b.map af=rb at*;generalize az G=rg at*;simp (maxSteps:=9^9) [bl,bq.m,bq.b,aa,r1,r2,r3,h5,h6,ea,eb,el0,el1,el4,el5]
def fo(l:List bz):List Int:=l.map (·.gid)
theorem v_(l:List bz)(s:List Int):l.foldl (fun s m=>jz s m.gid) s=(fo l).foldl jz s:=by
 simp only[fo,List.foldl_map]
def JG(a b:List bz)(G:List Int)(i:Nat)(s:List Int)(x:Nat×Nat):St:={t:=[(0,.c (boxes a)),(1,.c (boxes b)),(2,.c (ints G)),(7,.c (.row 16 x.1 0 s.length)),(8,.c (I i))],o:=[(16,⟨x.1,1,true,false,az s⟩)],n:=x.2}
def K0(a b:List bz)(G:List Int)(s:List Int)(x:Nat×Nat):St:={t:=[(0,.c (boxes a)),(1,.c (boxes b)),(2,.c (ints G)),(7,.c (.row 16 x.1 0 s.length)),(8,.c (I a.length)),(20,.c (.bool false))],o:=[(16,⟨x.1,1,true,false,az s⟩)],n:=x.2}
def JF(a b:List bz)(G:List Int)(i:Nat)(s:List Int)(x:Nat×Nat):St:={t:=[(0,.c (boxes a)),(1,.c (boxes b)),(2,.c (ints G)),(7,.c (.row 16 x.1 0 s.length)),(9,.c (I i))],o:=[(16,⟨x.1,1,true,false,az s⟩)],n:=x.2}
def KZ(a b:List bz)(G:List Int)(s:List Int)(x:Nat×Nat):St:={t:=[(0,.c (boxes a)),(1,.c (boxes b)),(2,.c (ints G)),(7,.c (.row 16 x.1 0 s.length)),(9,.c (I b.length)),(41,.c (.bool false))],o:=[(16,⟨x.1,1,true,false,az s⟩)],n:=x.2}
theorem GC(kin:bf.k M)(kput:bX.k M)(k:Nat)(a b:List bz)(G:List Int)(ha:a.length≤5)(hk:a.length<k)(x:Nat×Nat):
  ∃y,eG (ct (run M) k aY.l0) k (JG a b G 0 [] x)=some (.exit 0,K0 a b G (a.foldl (fun s m=>jz s m.gid) []) y):=by
 obtain⟨g,hr⟩:=iS (f:=ct (run M) k aY.l0) a (fun s m=>jz s m.gid) (fun i s=>s.length≤i) (JG a b G) 0 (K0 a b G)
  (fun i h s hs=>by have:=qP s a[i].gid;omega)
  (fun i hi s x hs=>by
   obtain⟨v,n⟩:=x;have e5:=cA (i:=i) (by omega);have e9:=aM s;have hra:(a.map af).length=a.length:=by simp
   have h1:=bf.ar kin s a[i].gid (by omega);have h2:=bX.ar kput s a[i].gid (by omega);have a1:∀hh,(a.map af)[i]'hh=af a[i]:=by intro hh;simp
   have e10:=aM (jU s a[i].gid);have hfl:=jR (jU s a[i].gid);simp only[aE,jz];by_cases c:a[i].gid∈s
   ·rw[decide_eq_true c] at h1;rw[if_pos c];simp only[JG];simp only[af,boxes,ae,ints] at a1 h1 ⊢;generalize az s=rs at*;generalize a.map af=ra at*;generalize b.map af=rb at*;simp (maxSteps:=9^9) [aY.l0,hra,hi,h1,a1,e5,e9,ab]
   ·rw[decide_eq_false c] at h1;rw[if_neg c];simp only[JG];simp only[af,boxes,ae,ints] at a1 h1 h2 ⊢;generalize az (jU s a[i].gid)=rp at*;generalize az s=rs at*;generalize a.map af=ra at*;generalize b.map af=rb at*;simp (maxSteps:=9^9) [aY.l0,hra,hi,h1,h2,a1,e5,e9,e10,hfl,ab])
  (fun s x hs=>by
   obtain⟨v,n⟩:=x;have hra:(a.map af).length=a.length:=by simp
   simp only[aE,JG,K0,boxes,ints];generalize a.map af=ra at*;generalize b.map af=rb at*;simp (maxSteps:=9^9) [aY.l0,hra]) [] (by simp)
 exact⟨_,gd (hr x) (by omega)⟩
theorem GA(kin:bf.k M)(kput:bX.k M)(k:Nat)(a b:List bz)(G:List Int)(hb:b.length≤5)(hk:b.length<k)(s0:List Int)(h0:s0.length≤5)(x:Nat×Nat):
  ∃y,eG (ct (run M) k aY.l1) k (JF a b G 0 s0 x)=some (.exit 2,KZ a b G (b.foldl (fun s m=>jz s m.gid) s0) y):=by
 obtain⟨g,hr⟩:=iS (f:=ct (run M) k aY.l1) b (fun s m=>jz s m.gid) (fun i s=>s.length≤5+i) (JF a b G) 2 (KZ a b G)
  (fun i h s hs=>by have:=qP s b[i].gid;omega)
  (fun i hi s x hs=>by
   obtain⟨v,n⟩:=x;have e5:=cA (i:=i) (by omega);have e9:=aM s;have hra:(b.map af).length=b.length:=by simp
   have h1:=bf.ar kin s b[i].gid (by omega);have h2:=bX.ar kput s b[i].gid (by omega);have a1:∀hh,(b.map af)[i]'hh=af b[i]:=by intro hh;simp
   have e10:=aM (jU s b[i].gid);have hfl:=jR (jU s b[i].gid);simp only[aE,jz];by_cases c:b[i].gid∈s
   ·rw[decide_eq_true c] at h1;rw[if_pos c];simp only[JF];simp only[af,boxes,ae,ints] at a1 h1 ⊢;generalize az s=rs at*;generalize a.map af=ra at*;generalize b.map af=rb at*;simp (maxSteps:=9^9) [aY.l1,hra,hi,h1,a1,e5,e9,ab]
   ·rw[decide_eq_false c] at h1;rw[if_neg c];simp only[JF];simp only[af,boxes,ae,ints] at a1 h1 h2 ⊢;generalize az (jU s b[i].gid)=rp at*;generalize az s=rs at*;generalize a.map af=ra at*;generalize b.map af=rb at*;simp (maxSteps:=9^9) [aY.l1,hra,hi,h1,h2,a1,e5,e9,e10,hfl,ab])
  (fun s x hs=>by
   obtain⟨v,n⟩:=x;have hra:(b.map af).length=b.length:=by simp
   simp only[aE,JF,KZ,boxes,ints];generalize a.map af=ra at*;generalize b.map af=rb at*;simp (maxSteps:=9^9) [aY.l1,hra]) s0 (by omega)
 exact⟨_,gd (hr x) (by omega)⟩
def lu(a b:List bz)(g:Int):bz:=match jS a g,jS b g with
 |some x,some y=>gH x y
 |some x,none=>x
 |none,some y=>y
 |none,none=>⟨0,[],0,0,0,[],[]⟩
def xw(a b:List bz)(G:List Int)(out:List bz)(g:Int):List bz:=if g∈G then out else out++[lu a b g]
def FM(a b:List bz)(G gs:List Int)(v16:Nat)(i:Nat)(out:List bz)(x:Nat×Nat):St:={t:=[(0,.c (boxes a)),(1,.c (boxes b)),(2,.c (ints G)),(7,.c (.row 16 v16 0 gs.length)),(10,.c (.row 59 x.1 0 out.length)),(11,.c (I i))],o:=[(16,⟨v16,1,true,false,az gs⟩),(59,⟨x.1,7,true,false,out.map af⟩)],n:=x.2}
def KY(a b:List bz)(G gs:List Int)(v16:Nat)(out:List bz)(x:Nat×Nat):St:={t:=[(0,.c (boxes a)),(1,.c (boxes b)),(2,.c (ints G)),(7,.c (.row 16 v16 0 gs.length)),(10,.c (.row 59 x.1 0 out.length)),(11,.c (I gs.length)),(63,.c (.bool false))],o:=[(16,⟨v16,1,true,false,az gs⟩),(59,⟨x.1,7,true,false,out.map af⟩)],n:=x.2}
structure Ml (M:Nat→Option Body):Prop where
 FP:bf.k M
 copy:b6.k M
 join:ep.k M
 at_:fH.k M
theorem IV(k:Nat)(a b:List bz)(G gs:List Int)(v16:Nat)(out:List bz)(x:Nat×Nat):
  ∃y,ct (run M) k aY.l2 (FM a b G gs v16 gs.length out x)=some (.exit 4,KY a b G gs v16 out y):=by
 obtain⟨v,n⟩:=x;simp only[aE,FM,KY,boxes,ints];generalize a.map af=ra at*;generalize b.map af=rb at*;generalize out.map af=ro at*;simp (maxSteps:=9^9) [aY.l2,aa]
theorem Gz(K:Ml M)(k:Nat)(a b:List bz)(ha:lx a)(hb:lx b)(G gs:List Int)(hG:G.length≤4194304)(hgs:gs.length≤100)(hmem:∀g∈gs,g∈fo a∨g∈fo b)(v16 i:Nat)(hi:i<gs.length)(out:List bz)(ho:out.length≤i)(x:Nat×Nat):
  ∃y,ct (run M) k aY.l2 (FM a b G gs v16 i out x)=some (.normal,FM a b G gs v16 (i+1) (xw a b G out gs[i]) y):=by
 obtain⟨v,n⟩:=x;have hla:=ha.len;have hlb:=hb.len;have h1:=bf.ar K.FP G gs[i] (by omega);have h2:=fH.ar K.at_ a gs[i] (by omega);have h3:=fH.ar K.at_ b gs[i] (by omega);have e5:=cA (i:=i) (by omega);have e6:out.length+1≤4294967296:=by omega
 have eg:=aM gs;have a0:∀hh,(az gs)[i]'hh=[I gs[i]]:=by intro hh;simp[az]
 have eo:(out.map af).length=out.length:=by simp
 have ea:(a.map af).length=a.length:=by simp
 have eb:(b.map af).length=b.length:=by simp
 simp only[aE];unfold xw;by_cases c:gs[i]∈G
 ·rw[decide_eq_true c] at h1;rw[if_pos c];simp only[FM];simp only[boxes,ints] at*;generalize az gs=rg at*;generalize az G=rG at*;generalize a.map af=ra at*;generalize b.map af=rb at*;generalize out.map af=ro at*;simp (maxSteps:=9^9) [aY.l2,aa,hi,h1,e5,eg,a0]
 ·rw[decide_eq_false c] at h1;rw[if_neg c];cases hp:kU a gs[i] with
  |some p=>
   obtain⟨p1,p2⟩:=iB hp;have gp:=ha.lf _ (ax p1);have a1:∀hh,(a.map af)[p]'hh=af a[p]:=by intro hh;simp
   rw[hp] at h2;cases hq:kU b gs[i] with
   |some q=>
    obtain⟨q1,q2⟩:=iB hq;have gq:=hb.lf _ (ax q1);have a2:∀hh,(b.map af)[q]'hh=af b[q]:=by intro hh;simp
    rw[hq] at h3;have h4:=ep.ar K.join a[p] b[q] (gp.zu gq);have ej:lu a b gs[i]=gH a[p] b[q]:=by simp only[lu,p2,q2]
    rw[ej];simp only[FM,cH,bE,bJ,aF,bP];simp only[af,cd,boxes,ae,ints,dy] at h1 h2 h3 h4 a1 a2 ⊢;generalize gH a[p] b[q]=j at*;generalize az gs=rg at*;generalize az G=rG at*;generalize a.map af=ra at*;generalize b.map af=rb at*;generalize out.map af=ro at*;generalize a[p].ae.map ah=r1 at*;generalize az a[p].gone=r2 at*;generalize b[q].ae.map ah=r3 at*;generalize az b[q].gone=r4 at*;generalize j.ae.map ah=r5 at*;generalize az j.gone=r6 at*;simp (maxSteps:=9^9) [aY.l2,aa,hi,p1,q1,h1,h2,h3,h4,e5,e6,eg,a0,a1,a2,eo,ea,eb,ab]
   |none=>
    rw[hq] at h3;have h4:=b6.ar K.copy a[p] gp.th;have ej:lu a b gs[i]=a[p]:=by simp only[lu,p2,oe hq]
    rw[ej];simp only[FM,cH,bE,bJ,aF,bP];simp only[af,cd,boxes,ae,ints,dy] at h1 h2 h3 h4 a1 ⊢;generalize az gs=rg at*;generalize az G=rG at*;generalize a.map af=ra at*;generalize b.map af=rb at*;generalize out.map af=ro at*;generalize a[p].ae.map ah=r1 at*;generalize az a[p].gone=r2 at*;simp (maxSteps:=9^9) [aY.l2,aa,hi,p1,h1,h2,h3,h4,e5,e6,eg,a0,a1,eo,ea,ab]
  |none=>
   rw[hp] at h2;cases hq:kU b gs[i] with
   |some q=>
    obtain⟨q1,q2⟩:=iB hq;have gq:=hb.lf _ (ax q1);have a2:∀hh,(b.map af)[q]'hh=af b[q]:=by intro hh;simp
    rw[hq] at h3;have h4:=b6.ar K.copy b[q] gq.th;have ej:lu a b gs[i]=b[q]:=by simp only[lu,q2,oe hp]
    rw[ej];simp only[FM,cH,bE,bJ,aF,bP];simp only[af,cd,boxes,ae,ints,dy] at h1 h2 h3 h4 a2 ⊢;generalize az gs=rg at*;generalize az G=rG at*;generalize a.map af=ra at*;generalize b.map af=rb at*;generalize out.map af=ro at*;generalize b[q].ae.map ah=r3 at*;generalize az b[q].gone=r4 at*;simp (maxSteps:=9^9) [aY.l2,aa,hi,q1,h1,h2,h3,h4,e5,e6,eg,a0,a2,eo,eb,ab]
   |none=>
    exfalso;have n1:=oe hp;have n2:=oe hq;unfold jS at n1 n2;rw[List.find?_eq_none] at n1 n2;rcases hmem _ (ax hi) with z|z
    ·obtain⟨m,hm,e⟩:=List.mem_map.1 z;exact n1 m hm (by simp[e])
    ·obtain⟨m,hm,e⟩:=List.mem_map.1 z;exact n2 m hm (by simp[e])
def DC(v:Nat)(L:List bz)(i:Nat):List (Nat×Ob):=[(59,⟨v,7,true,false,(iT L i).map af⟩)]
def JE(v:Nat)(L:List bz)(i k:Nat)(x:Nat):St:={t:=[(10,.c (.row 59 v 0 L.length)),(14,.c (I i)),(15,.c (I k))],o:=DC v L i,n:=x}
def IU(v:Nat)(L:List bz)(i:Nat)(x:bz):Option Nat→Nat→Out×St
 |none,m=>(.exit 9,{t:=[(10,.c (.row 59 v 0 L.length)),(14,.c (I i)),(15,.c (I i)),(130,.c (.bool false))],o:=DC v L i,n:=m})
 |some _,m=>(.exit 9,{t:=[(10,.c (.row 59 v 0 L.length)),(14,.c (I i))],o:=[(59,⟨v,7,true,false,((iT L i).map af).set i (af {x with name:=jT x.name x.gid})⟩)],n:=m})
theorem tT(L:List bz)(i k:Nat)(hk:k<i)(hi:i<L.length):(iT L i)[k]'(by rw[nZ];omega)=(po (L.take i))[k]'(by rw[j_];simp;omega):=by
 simp only[iT];rw[List.getElem_append_left]
theorem Gy(kn:cv.k M)(v:Nat)(L:List bz)(hL:L.length≤1048576)(hb:∀b∈L,b.name.length≤1048576∧b.gid≤9223372036854775807)(K i:Nat)(hi:i<L.length)(hK:i<K):
  ∃g:Nat→Nat,∀x,eG (ct (run M) K aY.l4) K (JE v L i 0 x)=some (IU v L i L[i] (dW (sm (fun y:bz=>decide (y.name=L[i].name)) (po (L.take i))) i) (g x)):=by
 have hx:=hb _ (ax hi);have hrl:(po (L.take i)).length=i:=by rw[j_];simp;omega
 have h2:=cv.ar kn L[i].name L[i].gid hx.1 hx.2;have el:((iT L i).map af).length=L.length:=by simp[nZ]
 have a1:∀hh,((iT L i).map af)[i]'hh=af L[i]:=by
  intro hh;simp only[fA,vv L i hi]
 obtain⟨g,hg⟩:=lT (f:=ct (run M) K aY.l4) i (sm (fun y:bz=>decide (y.name=L[i].name)) (po (L.take i))) (JE v L i) (IU v L i L[i]) (fun q m=>by cases q<;>simp[IU])
  (fun k hk x c=>by
   rw[jh _ _ _ (by omega)] at c;simp only[decide_eq_false_iff_not] at c;have e5:=cA (i:=k) (by omega);have hk2:k<L.length:=by omega
   have a2:∀hh,((iT L i).map af)[k]'hh=af ((po (L.take i))[k]'(by omega)):=by
    intro hh;simp only[fA,tT L i k hk hi]
   simp only[JE,DC];simp only[af,ae,ints] at a1 a2 ⊢;generalize (po (L.take i))[k]'(by omega)=y at*;generalize (iT L i).map af=rr at*;generalize L[i]=z at*;generalize z.ae.map ah=r1 at*;generalize az z.gone=r2 at*;generalize y.ae.map ah=r3 at*;generalize az y.gone=r4 at*;simp (maxSteps:=9^9) [aY.l4,aa,hk,hi,hk2,c,e5,el,a1,a2])
  (fun k hk x c=>by
   rw[jh _ _ _ (by omega)] at c;simp only[decide_eq_true_eq] at c;have hk2:k<L.length:=by omega
   have a2:∀hh,((iT L i).map af)[k]'hh=af ((po (L.take i))[k]'(by omega)):=by
    intro hh;simp only[fA,tT L i k hk hi]
   simp only[JE,IU,DC];simp only[af,ae,ints] at a1 a2 ⊢;generalize (po (L.take i))[k]'(by omega)=y at*;generalize (iT L i).map af=rr at*;generalize L[i]=z at*;generalize jT z.name z.gid=nm at*;generalize z.ae.map ah=r1 at*;generalize az z.gone=r2 at*;generalize y.ae.map ah=r3 at*;generalize az y.gone=r4 at*;simp (maxSteps:=9^9) [aY.l4,aa,setAt,hk,hi,hk2,c,h2,el,a1,a2])
  (fun x=>by
   simp only[JE,IU,DC];generalize (iT L i).map af=rr at*;simp (maxSteps:=9^9) [aY.l4,aa])
 exact⟨g,fun x=>gd (hg x) (by omega)⟩
theorem Dm(p:bz→Bool)(l:List bz):l.any p=(dW (sm p l) l.length).isSome:=by
 cases q:dW (sm p l) l.length with
 |none=>
  have hn:=kW q;have:l.any p=false:=by
   rw[List.any_eq_false];intro b hb;obtain⟨j,hj,rfl⟩:=bV hb;have:=hn j hj;rw[jh _ _ _ hj] at this;simp[this]
  rw[this];rfl
 |some k=>
  obtain⟨h1,h2,_⟩:=kV q;rw[jh _ _ _ h1] at h2;have:l.any p=true:=List.any_eq_true.2 ⟨_,ax h1,h2⟩;rw[this];rfl
def J8(v:Nat)(L:List bz)(i:Nat)(x:Nat):St:={t:=[(10,.c (.row 59 v 0 L.length)),(14,.c (I i))],o:=DC v L i,n:=x}
def KX(v:Nat)(L:List bz)(x:Nat):St:={t:=[(10,.c (.row 59 v 0 L.length)),(14,.c (I L.length)),(125,.c (.bool false))],o:=DC v L L.length,n:=x}
theorem Gx(kn:cv.k M)(v:Nat)(L:List bz)(hL:L.length≤1048576)(hb:∀b∈L,b.name.length≤1048576∧b.gid≤9223372036854775807)(K:Nat)(hK:L.length<K)(x:Nat):
  ∃y,eG (ct (run M) K aY.l3) K (J8 v L 0 x)=some (.exit 7,KX v L y):=by
 obtain⟨g,hr⟩:=ju (f:=ct (run M) K aY.l3) L.length (J8 v L) 7 (KX v L)
  (fun i hi x=>by
   obtain⟨g,hg⟩:=Gy kn v L hL hb K i hi (by omega);have e5:=cA (i:=i) (by omega);have hrl:(po (L.take i)).length=i:=by rw[j_];simp;omega
   have hany:=Dm (fun y:bz=>decide (y.name=L[i].name)) (po (L.take i));rw[hrl] at hany;have hs:=vu L i hi;have ez:((0:Nat):Int)=0:=rfl;have el:((iT L i).map af).length=L.length:=by simp[nZ]
   have a1:((iT L i).map af)[i]'(by omega)=af L[i]:=by
    simp only[fA,vv L i hi]
   simp only[J8,DC,hs,gZ];simp only[JE,DC,ez] at hg;unfold oO;rw[hany];cases hq:dW (sm (fun y:bz=>decide (y.name=L[i].name)) (po (L.take i))) i with
   |none=>
    simp only[hq,IU,DC] at hg;have e11:((iT L i).map af).set i (af L[i])=(iT L i).map af:=by
     rw[←a1,List.set_getElem_self]
    simp only[Option.isSome_none,au,if_false];rw[e11];clear a1;generalize (iT L i).map af=rr at*;simp (maxSteps:=9^9) [aY.l3,hi,hg,e5]
   |some q=>
    simp only[hq,IU] at hg;simp only[Option.isSome_some,if_true];clear a1;generalize ((iT L i).map af).set i (af {L[i] with name:=jT L[i].name L[i].gid})=r2 at*
    generalize (iT L i).map af=rr at*;simp (maxSteps:=9^9) [aY.l3,hi,hg,e5])
  (fun x=>by
   simp only[J8,KX,DC];generalize (iT L L.length).map af=rr at*;simp (maxSteps:=9^9) [aY.l3])
 exact⟨_,gd (hr x) (by omega)⟩
theorem vk(a b:List bz)(G:List Int):∀(gs:List Int) (out:List bz),gs.foldl (xw a b G) out=out++(gs.filter fun g=> !decide (g∈G)).map (lu a b)
 |[],out=>by simp
 |g::gs,out=>by
  rw[eH,vk a b G gs,h_];unfold xw;by_cases c:g∈G
  ·simp[c]
  ·simp[c]
def kH(a b:List bz)(G:List Int):List bz:=po (((aQ (fo a) (fo b)).filter fun g=> !decide (g∈G)).map (lu a b))
theorem zx{a b:List bz}(ha:lx a)(hb:lx b)(g:Int):(lu a b g).name.length≤12∧(lu a b g).gid≤9999:=by
 have hg:∀{c:bz},Good c→c.name.length≤12∧c.gid≤9999:=fun {c} hc=>⟨(mu hc.name).2,hc.gid.2⟩
 unfold lu;cases hp:jS a g with
 |some x=>
  have h1:=hg (ha.lf _ (j1 hp).1);cases hq:jS b g with
  |some y=>
   have h2:=hg (hb.lf _ (j1 hq).1);simp only[nD];rcases pO x y with q|q<;>rw[q]
   ·exact h1
   ·exact⟨h2.1,h1.2⟩
  |none=>exact h1
 |none=>
  cases hq:jS b g with
  |some y=>exact hg (hb.lf _ (j1 hq).1)
  |none=>simp
theorem aY.ar(h:aY.k M)(a b:List bz)(G:List Int)(ha:lx a)(hb:lx b)(hG:G.length≤4194304):
  run M 466 [.c (boxes a),.c (boxes b),.c (ints G)] []=some (.c (.sl true 7 ((kH a b G).map af)),[]):=by
 obtain⟨h0,kin,kput,kcopy,kjoin,kat,kname⟩:=h;have K:Ml M:=⟨kin,kcopy,kjoin,kat⟩;have hla:=ha.len;have hlb:=hb.len;refine aB (b:=aY.m) h0 ⟨21, ?_⟩;have hgl:(fo a).length=a.length:=by simp[fo]
 have hgl2:(fo b).length=b.length:=by simp[fo]
 obtain⟨⟨v1,n1⟩,r1⟩:=GC kin kput 21 a b G hla (by omega) (2000016,2000064);have hs1:(a.foldl (fun s m=>jz s m.gid) []).length≤5:=by
  have:=tj a (fun s m=>jz s m.gid) (fun i s=>s.length≤i) (fun i h s hs=>by have:=qP s a[i].gid;omega) [] (by simp);omega
 obtain⟨⟨v2,n2⟩,r2⟩:=GA kin kput 21 a b G hlb (by omega) (a.foldl (fun s m=>jz s m.gid) []) hs1 (v1,n1+16);have hj:b.foldl (fun s m=>jz s m.gid) (a.foldl (fun s m=>jz s m.gid) [])=aQ (fo a) (fo b):=by
  rw[v_,v_,aQ,List.foldl_append]
 rw[hj] at r2;have hgs:(aQ (fo a) (fo b)).length≤10:=by
  have:=jD (fo a) (fo b);omega
 have hmem:∀g∈aQ (fo a) (fo b),g∈fo a∨g∈fo b:=fun g hg=>(iq _ _ _).1 hg
 unfold kH;have hnm:∀x∈((aQ (fo a) (fo b)).filter fun g=> !decide (g∈G)).map (lu a b),x.name.length≤1048576∧x.gid≤9223372036854775807:=fun x hx=>by
  obtain⟨g,_,rfl⟩:=List.mem_map.1 hx;have:=zx ha hb g;omega
 have hfl:=bQ (fun g=> !decide (g∈G)) (aQ (fo a) (fo b));have eL:=vk a b G (aQ (fo a) (fo b)) [];rw[List.nil_append] at eL;have hLl:(((aQ (fo a) (fo b)).filter fun g=> !decide (g∈G)).map (lu a b)).length≤10:=by simp;omega
 obtain⟨g3,hr3⟩:=iS (f:=ct (run M) 21 aY.l2) (aQ (fo a) (fo b)) (xw a b G) (fun i s=>s.length≤i) (FM a b G (aQ (fo a) (fo b)) v2) 4 (KY a b G (aQ (fo a) (fo b)) v2)
  (fun i h s hs=>by unfold xw;split<;>(try simp)<;>omega)
  (fun i hi s x hs=>Gz K 21 a b ha hb G (aQ (fo a) (fo b)) hG (by omega) hmem v2 i hi s hs x)
  (fun s x hs=>IV 21 a b G (aQ (fo a) (fo b)) v2 s x) [] (by simp)
 have r3:=gd (hr3 (n2+0,n2+48)) (show (aQ (fo a) (fo b)).length+1≤21 by omega);rw[eL] at r3;generalize g3 (n2+0,n2+48)=y at*;obtain⟨v3,n3⟩:=y;generalize ((aQ (fo a) (fo b)).filter fun g=> !decide (g∈G)).map (lu a b)=L at*;obtain⟨n4,r4⟩:=Gx kname v3 L (by omega) hnm 21 (by omega) (n3+16);have el:((po L).map af).length=L.length:=by simp[j_]
 have eg:=aM (aQ (fo a) (fo b));have eg1:=aM (a.foldl (fun s m=>jz s m.gid) []);have ez:((0:Nat):Int)=0:=rfl;simp only[JG,K0,ez,mL,fE] at r1;simp only[JF,KZ,ez] at r2;simp only[FM,KY,ez,bJ,fE,Nat.add_zero] at r3;simp only[J8,KX,DC,vt,xD,ez] at r4;clear hnm eL hj hmem hr3;generalize (po L).map af=R4 at*;generalize L.map af=R3 at*;generalize L.length=N at*;generalize (aQ (fo a) (fo b))=gj at*;generalize (a.foldl (fun s m=>jz s m.gid) [])=ga at*;simp only[boxes,ints] at*;generalize az gj=rgj at*;generalize az ga=rga at*;generalize a.map af=ra at*;generalize b.map af=rb at*;generalize az G=rg at*;simp (maxSteps:=9^9) [bl,aY.m,aY.b,aa,r1,r2,r3,r4,el,ab]
def jx(L:List bz)(i:Nat):List Int:=(L.take i).flatMap fun b=>e_ b.ae
def mO(L:List bz)(i:Nat)(x:bz):bz:={x with ae:=x.ae.filter fun m=> !decide (m.gid∈jx L i)}
def iW(L:List bz)(k:Nat):List bz:=L.mapIdx fun i x=>if i<k then mO L i x else x
def uG(L:List bz):List bz:=L.mapIdx fun i x=>mO L i x
theorem wo(L:List bz):iW L 0=L:=by unfold iW;simp[List.mapIdx_eq_iff]
theorem xT(L:List bz):iW L L.length=uG L:=by
 unfold iW uG;apply List.ext_getElem
 ·simp
 ·intro i h1 h2;simp at h1 ⊢;intro h;omega
theorem qR(L:List bz)(k:Nat):(iW L k).length=L.length:=by simp[iW]
theorem wu(L:List bz)(k:Nat)(h:k<L.length):(iW L k)[k]'(by rw[qR];exact h)=L[k]:=by simp[iW]
theorem wq(L:List bz)(k:Nat)(h:k<L.length):iW L (k+1)=(iW L k).set k (mO L k L[k]):=by
 unfold iW;apply List.ext_getElem
 ·simp
 ·intro i h1 h2;simp only[List.getElem_mapIdx,List.getElem_set];by_cases c:k=i
  ·subst c;simp
  ·rw[if_neg c];by_cases c2:i<k
   ·rw[if_pos c2,if_pos (by omega)]
   ·rw[if_neg c2,if_neg (by omega)]
theorem rM(L:List bz)(i:Nat)(h:i<L.length):jx L (i+1)=jx L i++e_ L[i].ae:=by
 simp only[jx,gK L i h,List.flatMap_append,cC,List.flatMap_nil,dZ]
structure wQ where
 u4:Nat
 u6:Nat
 w:Nat
 z:Nat
 eE:Int
 time:Int
 gone:List Int
 L:List bz
def BZ(c:wQ):List T:=[I c.eE,I c.time,.row 13300 c.w 0 c.L.length,.row 11900 c.z 0 c.gone.length]
abbrev ny:List T:=[I 0,I 0,.aN 7,.aN 1]
structure Li where
 i:Nat
 v:Nat
 n:Nat
def CY(c:wQ)(i:Nat)(x:bz)(seen:List Int)(u9 v:Nat)(j:Nat)(left:List bo)(y:Nat×Nat):St:={t:=[(4,.c (.ptr 4 c.u4 0 0)),(6,.c (.ptr 6 c.u6 0 0)),(7,.c (.row 35 v 0 seen.length)),(8,.c (I i)),(9,.c (.ptr 9 u9 0 0)),(10,.c (.row 44 y.1 0 left.length)),(37,.c (.row 13300 c.w 0 c.L.length)),(38,.c (I c.L.length)),(39,.c (I i)),(46,.c (ae x.ae)),(47,.c (I x.ae.length)),(48,.c (I j))],o:=[(4,⟨c.u4,4,true,true,[ny]⟩),(6,⟨c.u6,4,true,true,[BZ c]⟩),(9,⟨u9,7,true,true,[af x]⟩),(35,⟨v,1,true,false,az seen⟩),(44,⟨y.1,4,true,false,left.map ah⟩),(11900,⟨c.z,1,false,false,az c.gone⟩),(13300,⟨c.w,7,true,false,(iW c.L i).map af⟩)],n:=y.2}
def GM(c:wQ)(i:Nat)(x:bz)(seen:List Int)(u9 v:Nat)(left:List bo)(y:Nat×Nat):St:={t:=[(4,.c (.ptr 4 c.u4 0 0)),(6,.c (.ptr 6 c.u6 0 0)),(7,.c (.row 35 v 0 seen.length)),(8,.c (I i)),(9,.c (.ptr 9 u9 0 0)),(10,.c (.row 44 y.1 0 left.length)),(37,.c (.row 13300 c.w 0 c.L.length)),(38,.c (I c.L.length)),(39,.c (I i)),(46,.c (ae x.ae)),(47,.c (I x.ae.length)),(48,.c (I x.ae.length)),(49,.c (.bool false))],o:=[(4,⟨c.u4,4,true,true,[ny]⟩),(6,⟨c.u6,4,true,true,[BZ c]⟩),(9,⟨u9,7,true,true,[af x]⟩),(35,⟨v,1,true,false,az seen⟩),(44,⟨y.1,4,true,false,left.map ah⟩),(11900,⟨c.z,1,false,false,az c.gone⟩),(13300,⟨c.w,7,true,false,(iW c.L i).map af⟩)],n:=y.2}
theorem Eu(kc:aH.k M)(k:Nat)(c:wQ)(i:Nat)(x:bz)(seen:List Int)(hseen:seen.length≤4194304)(u9 v:Nat)(hx:x.ae.length≤1048576)(hk:x.ae.length<k)(y:Nat×Nat):
  ∃z,eG (ct (run M) k bC.l1) k (CY c i x seen u9 v 0 [] y)=some (.exit 2,GM c i x seen u9 v (x.ae.filter fun m=> !decide (m.gid∈seen)) z):=by
 obtain⟨g,hr⟩:=iS (f:=ct (run M) k bC.l1) x.ae (fun s m=>if(!decide (m.gid∈seen))=true then s++[m] else s) (fun i s=>s.length≤i) (CY c i x seen u9 v) 2 (GM c i x seen u9 v)
  (fun i h s hs=>by split<;>(try simp)<;>omega)
  (fun j hj s y hs=>by
   obtain⟨v4,n⟩:=y;have e5:=cA (i:=j) (by omega);have e6:s.length+1≤4294967296:=by omega
   have e9:(s.map ah).length=s.length:=by simp
   have er:(x.ae.map ah).length=x.ae.length:=by simp
   have h1:=aH.ar kc seen x.ae[j].gid (by omega);have eg:=aM seen;have a1:∀hh,(x.ae.map ah)[j]'hh=ah x.ae[j]:=by intro hh;simp
   simp only[aE];by_cases q:x.ae[j].gid∈seen
   ·rw[decide_eq_true q] at h1;simp only[q,decide_true,Bool.not_true,au,if_false,CY,BZ];simp only[af,ae,ints,ah,iZ] at a1 h1 ⊢;generalize x.ae.map ah=rx at*;generalize az seen=rs at*;generalize (iW c.L i).map af=rd at*;generalize s.map ah=rl at*;generalize x.ae[j].flags.map aR=rf at*;simp (maxSteps:=9^9) [bC.l1,setAt,hj,h1,e5,er,eg,a1,ab]
   ·rw[decide_eq_false q] at h1;simp only[q,decide_false,Bool.not_false,if_true,CY,BZ,cH,bE,bJ,aF,bP];simp only[af,ae,ints,ah,iZ] at a1 h1 ⊢;generalize x.ae.map ah=rx at*;generalize az seen=rs at*;generalize (iW c.L i).map af=rd at*;generalize s.map ah=rl at*;generalize x.ae[j].flags.map aR=rf at*;simp (maxSteps:=9^9) [bC.l1,setAt,hj,h1,e5,e6,e9,er,eg,a1,ab])
  (fun s y hs=>by
   obtain⟨v4,n⟩:=y;have er:(x.ae.map ah).length=x.ae.length:=by simp
   simp only[aE,CY,GM,BZ,ae];generalize x.ae.map ah=rx at*;generalize az seen=rs at*;generalize (iW c.L i).map af=rd at*;generalize s.map ah=rl at*;simp (maxSteps:=9^9) [bC.l1]) [] (by simp)
 rw[pJ] at hr;exact⟨_,gd (hr y) (by omega)⟩
def Et(c:wQ)(i:Nat)(xm:List bo)(left:List bo)(v4:Nat)(j:Nat)(seen:List Int)(y:Nat×Nat):St:={t:=[(4,.c (.ptr 4 c.u4 0 0)),(6,.c (.ptr 6 c.u6 0 0)),(7,.c (.row 35 y.1 0 seen.length)),(8,.c (I i)),(10,.c (.row 44 v4 0 left.length)),(37,.c (.row 13300 c.w 0 c.L.length)),(38,.c (I c.L.length)),(39,.c (I i)),(63,.c (ae xm)),(64,.c (I xm.length)),(65,.c (I j))],o:=[(4,⟨c.u4,4,true,true,[ny]⟩),(6,⟨c.u6,4,true,true,[BZ c]⟩),(35,⟨y.1,1,true,false,az seen⟩),(44,⟨v4,4,true,false,left.map ah⟩),(11900,⟨c.z,1,false,false,az c.gone⟩),(13300,⟨c.w,7,true,false,(iW c.L i).map af⟩)],n:=y.2}
def GL(c:wQ)(i:Nat)(xm:List bo)(left:List bo)(v4:Nat)(seen:List Int)(y:Nat×Nat):St:={t:=[(4,.c (.ptr 4 c.u4 0 0)),(6,.c (.ptr 6 c.u6 0 0)),(7,.c (.row 35 y.1 0 seen.length)),(8,.c (I i)),(10,.c (.row 44 v4 0 left.length)),(37,.c (.row 13300 c.w 0 c.L.length)),(38,.c (I c.L.length)),(39,.c (I i)),(63,.c (ae xm)),(64,.c (I xm.length)),(65,.c (I xm.length)),(66,.c (.bool false))],o:=[(4,⟨c.u4,4,true,true,[ny]⟩),(6,⟨c.u6,4,true,true,[BZ c]⟩),(35,⟨y.1,1,true,false,az seen⟩),(44,⟨v4,4,true,false,left.map ah⟩),(11900,⟨c.z,1,false,false,az c.gone⟩),(13300,⟨c.w,7,true,false,(iW c.L i).map af⟩)],n:=y.2}
theorem CJ(l:List bo)(s:List Int):l.foldl (fun s m=>s++[m.gid]) s=s++e_ l:=by
 induction l generalizing s with
 |nil=>simp[e_]
 |cons a l ih=>rw[eH,ih];simp[e_]
theorem Es(k:Nat)(c:wQ)(i:Nat)(xm left:List bo)(v4:Nat)(seen:List Int)(hseen:seen.length≤4194304)(hx:xm.length≤1048576)(hk:xm.length<k)(y:Nat×Nat):
  ∃z,eG (ct (run M) k bC.l2) k (Et c i xm left v4 0 seen y)=some (.exit 4,GL c i xm left v4 (seen++e_ xm) z):=by
 obtain⟨g,hr⟩:=iS (f:=ct (run M) k bC.l2) xm (fun s m=>s++[m.gid]) (fun i s=>s.length≤4194304+i) (Et c i xm left v4) 4 (GL c i xm left v4)
  (fun i h s hs=>by simp;omega)
  (fun j hj s y hs=>by
   obtain⟨v,n⟩:=y;have e5:=cA (i:=j) (by omega);have e6:s.length+1≤4294967296:=by omega
   have e9:=aM s;have er:(xm.map ah).length=xm.length:=by simp
   have a1:∀hh,(xm.map ah)[j]'hh=ah xm[j]:=by intro hh;simp
   simp only[aE,Et,BZ,n_,aF,bP];simp only[ae,ah,iZ] at a1 ⊢;generalize xm.map ah=rx at*;generalize az s=rs at*;generalize (iW c.L i).map af=rd at*;generalize left.map ah=rl at*;generalize xm[j].flags.map aR=rf at*;simp (maxSteps:=9^9) [bC.l2,setAt,hj,e5,e6,e9,er,a1,ab])
  (fun s y hs=>by
   obtain⟨v,n⟩:=y;have er:(xm.map ah).length=xm.length:=by simp
   simp only[aE,Et,GL,BZ,ae];generalize xm.map ah=rx at*;generalize az s=rs at*;generalize (iW c.L i).map af=rd at*;generalize left.map ah=rl at*;simp (maxSteps:=9^9) [bC.l2]) seen (by omega)
 rw[CJ] at hr;exact⟨_,gd (hr y) (by omega)⟩
def zt(c:wQ)(s:Li):St:={t:=[(4,.c (.ptr 4 c.u4 0 0)),(6,.c (.ptr 6 c.u6 0 0)),(7,.c (.row 35 s.v 0 (jx c.L s.i).length)),(37,.c (.row 13300 c.w 0 c.L.length)),(38,.c (I c.L.length)),(39,.c (I s.i))],o:=[(4,⟨c.u4,4,true,true,[ny]⟩),(6,⟨c.u6,4,true,true,[BZ c]⟩),(35,⟨s.v,1,true,false,az (jx c.L s.i)⟩),(11900,⟨c.z,1,false,false,az c.gone⟩),(13300,⟨c.w,7,true,false,(iW c.L s.i).map af⟩)],n:=s.n}
def Ex(c:wQ)(s:Li):St:={t:=[(4,.c (.ptr 4 c.u4 0 0)),(6,.c (.ptr 6 c.u6 0 0)),(7,.c (.row 35 s.v 0 (jx c.L s.i).length)),(37,.c (.row 13300 c.w 0 c.L.length)),(38,.c (I c.L.length)),(39,.c (I s.i)),(40,.c (.bool false))],o:=[(4,⟨c.u4,4,true,true,[ny]⟩),(6,⟨c.u6,4,true,true,[BZ c]⟩),(35,⟨s.v,1,true,false,az (jx c.L s.i)⟩),(11900,⟨c.z,1,false,false,az c.gone⟩),(13300,⟨c.w,7,true,false,(iW c.L s.i).map af⟩)],n:=s.n}
theorem xB(L:List bz)(h:∀b∈L,b.ae.length≤100):∀i,(jx L i).length≤100*i
 |0=>by simp[jx]
 |i+1=>by
  have ih:=xB L h i;by_cases c:i<L.length
  ·rw[rM L i c];have:=h _ (ax c);simp only[aF,e_,fP];omega
  ·have:jx L (i+1)=jx L i:=by
    simp only[jx];rw[ab (by omega),ab (by omega)]
   rw[this];omega
theorem Ev(kc:aH.k M)(k:Nat)(hk:200≤k)(c:wQ)(hL:c.L.length≤1000)(hb:∀b∈c.L,b.ae.length≤100)(s:Li)(hs:s.i<c.L.length):
  ∃v' n',ct (run M) k bC.l0 (zt c s)=some (.normal,zt c ⟨s.i+1,v',n'⟩):=by
 obtain⟨i,v,n⟩:=s;simp only at hs;have hx:=hb _ (ax hs);have hsl:=xB c.L hb i;obtain⟨⟨v4,n4⟩,r1⟩:=Eu kc k c i c.L[i] (jx c.L i) (by omega) (n+64) v (by omega) (by omega) (n+112,n+208);obtain⟨⟨v5,n5⟩,r2⟩:=Es (M:=M) k c i c.L[i].ae (c.L[i].ae.filter fun m=> !decide (m.gid∈jx c.L i)) v4 (jx c.L i) (by omega) (by omega) (by omega) (v,n4+64);rw[←rM c.L i hs] at r2;have e5:=cA (i:=i) (by omega);have ez:((0:Nat):Int)=0:=rfl;have el:((iW c.L i).map af).length=c.L.length:=by simp[qR]
 have a1:∀hh,((iW c.L i).map af)[i]'hh=af c.L[i]:=by
  intro hh;simp only[fA,wu c.L i hs]
 have t3:(iW c.L (i+1)).map af=((iW c.L i).map af).set i (af (mO c.L i c.L[i])):=by rw[wq c.L i hs,gZ]
 have efl:((c.L[i].ae.filter fun m=> !decide (m.gid∈jx c.L i)).map ah).length=(c.L[i].ae.filter fun m=> !decide (m.gid∈jx c.L i)).length:=by simp
 have er:(c.L[i].ae.map ah).length=c.L[i].ae.length:=by simp
 simp only[CY,GM,ez,bJ,fE] at r1;simp only[Et,GL,ez] at r2;simp only[zt,t3];clear t3;simp only[mO,af,ae,ints,BZ] at r1 r2 a1 ⊢;generalize (c.L[i].ae.filter fun m=> !decide (m.gid∈jx c.L i)).map ah=rl at*;generalize (c.L[i].ae.filter fun m=> !decide (m.gid∈jx c.L i)).length=nl at*;generalize az (jx c.L (i+1))=rs1 at*;generalize (jx c.L (i+1)).length=ns1 at*;generalize az (jx c.L i)=rs at*;generalize (jx c.L i).length=ns at*;generalize (iW c.L i).map af=rd at*;generalize c.L[i]=x at*;generalize c.L.length=N at*;generalize x.ae.map ah=rx at*;generalize az x.gone=rg at*;generalize az c.gone=rcg at*;simp (maxSteps:=9^9) [bC.l0,setAt,hs,r1,r2,e5,el,a1,efl,er,ab]
theorem GN(k:Nat)(c:wQ)(s:Li)(hs:¬s.i<c.L.length):
  ∃n',ct (run M) k bC.l0 (zt c s)=some (.exit 0,Ex c ⟨s.i,s.v,n'⟩):=by
 obtain⟨i,v,n⟩:=s;simp only at hs;simp only[zt,Ex,BZ];generalize (iW c.L i).map af=rd at*;simp (maxSteps:=9^9) [bC.l0,hs]
def dk(a b:aT):aT:={eE:=a.eE,time:=Max.max a.time b.time,boxes:=uG (jY a.boxes b.boxes (aQ a.gone b.gone)),gone:=aQ a.gone b.gone}
theorem Ew(kc:aH.k M)(k:Nat)(hk:1200≤k)(c:wQ)(hL:c.L.length≤1000)(hb:∀b∈c.L,b.ae.length≤100)(v n:Nat):
  ∃v' n',eG (ct (run M) k bC.l0) k (zt c ⟨0,v,n⟩)=some (.exit 0,Ex c ⟨c.L.length,v',n'⟩):=by
 obtain⟨r,hr,⟨⟨i,v',n'⟩,rfl,hi⟩⟩:=kq (f:=ct (run M) k bC.l0) (zt c) (fun s=>s.i≤c.L.length) (fun s=>c.L.length-s.i) (fun r=>∃s',r=(.exit 0,Ex c s')∧s'.i=c.L.length)
  (fun s hs=>by
   by_cases q:s.i<c.L.length
   ·left;obtain⟨v',n',hh⟩:=Ev kc k (by omega) c hL hb s q;exact⟨_,hh,by simp only;omega,by simp only;omega⟩
   ·right;obtain⟨n',hh⟩:=GN (M:=M) k c s q;exact⟨_,hh,by simp,_,rfl,by simp only;omega⟩) k ⟨0,v,n⟩ (by simp) (by simp only;omega)
 simp only at hi;subst hi;exact⟨v',n',hr⟩
theorem BP:∀(l acc:List bz) (x:bz),x∈l.foldl nS acc→x∈acc∨∃y∈l,x.gid=y.gid∧x.ae=y.ae∧x.gone=y.gone∧(x.name=y.name∨x.name=jT y.name y.gid)
 |[],acc,x,h=> .inl h
 |y::l,acc,x,h=>by
  rw[eH] at h;rcases BP l _ x h with q|⟨z,hz,q⟩
  ·rw[pG] at q;rcases List.mem_append.1 q with q|q
   ·exact .inl q
   ·simp only[gu] at q;subst q;right;refine⟨y,bj .., ?_⟩;unfold oO;split
    ·exact⟨rfl,rfl,rfl,.inr rfl⟩
    ·exact⟨rfl,rfl,rfl,.inl rfl⟩
  ·exact .inr ⟨z,bp _ hz,q⟩
theorem wY(s:List UInt8)(g:Int):(jT s g).length≤12:=by
 unfold jT;split
 ·simp;omega
 ·simp;omega
structure Small (x:bz):Prop where
 m:x.ae.length≤20
 g:x.gone.length≤80
 n:x.name.length≤12
 f:∀m∈x.ae,m.flags.length≤1048576
 d:(e_ x.ae).Nodup
theorem Good.small{b:bz}(h:Good b):Small b:=⟨by have:=h.len;omega,by have:=h.mG;omega,(mu h.name).2,h.th.f,h.nd⟩
theorem w8{a b:bz}(ha:Good a)(hb:Good b):Small (gH a b):=by
 have H:=ha.zu hb;have J:=Ab ha hb;refine⟨?_, ?_, ?_,(rO H).f,J.na⟩
 ·have:=J.all;rw[ya] at this;exact this
 ·unfold gH;split
  ·have:=jD a.gone b.gone;have:=ha.mG;have:=hb.mG;simp only;omega
  ·have:=ha.mG;omega
 ·rcases pO a b with q|q<;>rw[q]
  ·exact(mu ha.name).2
  ·exact(mu hb.name).2
theorem Bs{a b:List bz}(ha:lx a)(hb:lx b)(x:bz)(h:x∈nG a b):Small x:=by
 rcases z_ x h with q|q|⟨y,hy,z,hz,_,rfl⟩
 ·exact(ha.lf x q).small
 ·exact(hb.lf x q).small
 ·exact w8 (ha.lf y hy) (hb.lf z hz)
theorem kR{a b:List bz}(ha:lx a)(hb:lx b)(G:List Int)(x:bz)(h:x∈jY a b G):Small x:=by
 rcases BP _ _ x h with q|⟨y,hy,q1,q2,q3,q4⟩
 ·simp at q
 ·have S:=Bs ha hb y (List.mem_filter.1 (pC.1 hy)).1;refine⟨by rw[q2];exact S.m,by rw[q3];exact S.g, ?_,by rw[q2];exact S.f,by rw[q2];exact S.d⟩;rcases q4 with q|q<;>rw[q]
  ·exact S.n
  ·exact wY _ _
theorem ot{a b:List bz}(ha:lx a)(hb:lx b)(G:List Int):(jY a b G).length≤10:=by
 unfold jY;rw[j_,ij];have h1:=bQ (fun x:bz=> !decide (x.gid∈G)) (nG a b);have h2:=Aa a b;have:=ha.len;have:=hb.len;omega
theorem E4(L:List bz)(h:∀x∈L,Small x):∀x∈uG L,gT x:=by
 intro x hx;obtain⟨i,hi,rfl⟩:=bV hx;simp only[uG,List.length_mapIdx] at hi;simp only[uG,List.getElem_mapIdx,mO];have S:=h _ (ax hi);have hl:=bQ (fun m:bo=> !decide (m.gid∈jx L i)) L[i].ae;refine⟨by have:=S.m;simp only;omega,by have:=S.g;simp only;omega,by have:=S.n;simp only;omega,fun m hm=>S.f m (List.mem_filter.1 hm).1⟩
structure lB (s:aT):Prop where
 boxes:lx s.boxes
 gone:s.gone.length≤20
 Ih:s.boxes.Pairwise fun x y=>x.gid<y.gid
theorem eh{s:aT}(h:bc s=true):lB s:=by
 simp only[bc,al,decide_eq_true_eq,cp,iV] at h;obtain⟨⟨⟨⟨_,_⟩,h3⟩,h4⟩,h5⟩:=h;have hg:=(ov.1 h4).2.2;have hbad:∀i (hi:i<s.boxes.length),fz s.boxes[i]=true∧∀(q:0<i),(s.boxes[i-1]'(by omega)).gid<s.boxes[i].gid:=fun i hi=>by
  have:=h5 i hi;rw[mR hi,nc hi] at this;simp at this;exact⟨this.1.1.1.1.1,this.1.1.1.1.2⟩
 refine⟨⟨h3,fun b hb=> ?_⟩,by omega, ?_⟩
 ·obtain⟨i,hi,rfl⟩:=bV hb;exact pg.1 (hbad i hi).1
 ·have hA:xl (s.boxes.map (·.gid)):=vj fun j hj=>by
   simp only[fP] at hj;have:=(hbad (j+1) hj).2 (by omega);simpa using this
  exact List.pairwise_map.1 hA
theorem bC.ar(h:bC.k M)(a b:aT)(ha:lB a)(hb:lB b):
  run M 447 [.a (ai a),.a (ai b)] []=some (.a [I a.eE,I (Max.max a.time b.time),.sl true 7 ((dk a b).boxes.map af),.sl false 1 (az (dk a b).gone)],[]):=by
 obtain⟨h0,kg,kc,kb⟩:=h;have hga:=ha.gone;have hgb:=hb.gone;have hgj:=jD a.gone b.gone;have h1:=fh.ar kg a.gone b.gone (by omega) (by omega);have h2:=bq.ar kb a.boxes b.boxes (aQ a.gone b.gone) ha.boxes hb.boxes (by omega);have hLl:=ot ha.boxes hb.boxes (aQ a.gone b.gone);have hLs:=kR ha.boxes hb.boxes (aQ a.gone b.gone);simp only[dk];have eg:=aM (aQ a.gone b.gone);generalize aQ a.gone b.gone=G at*;generalize jY a.boxes b.boxes G=L at*;obtain⟨v1,n1,r1⟩:=Ew kc 1200 (by omega) ⟨2000032,2000384,2000352,2000112,a.eE,Max.max a.time b.time,G,L⟩ (by simp only;omega) (fun x hx=>by have:=(hLs x hx).m;omega) 2000416 2000512;refine aB (b:=bC.m) h0 ⟨1200, ?_⟩;have el:(L.map af).length=L.length:=by simp
 have el2:((uG L).map af).length=L.length:=by simp[uG]
 have ez:((0:Nat):Int)=0:=rfl;have es:jx L 0=[]:=by simp[jx]
 have em:=yy a.time b.time;simp only[zt,Ex,BZ,wo,xT,ez,es,mL,fE] at r1;generalize hmx:Max.max a.time b.time=mx at*;clear hmx hLs;generalize (uG L).map af=RD at*;generalize L.map af=RL at*;generalize L.length=N at*;generalize az (jx L N)=rs at*;simp only[ai,boxes,ints] at*;generalize az G=rg at*;generalize G.length=ng at*;generalize a.boxes.map af=ra at*;generalize b.boxes.map af=rb at*;generalize az a.gone=ga at*;generalize az b.gone=gb at*;by_cases c:a.time<b.time
 ·rw[if_pos c] at em;subst em;simp (maxSteps:=9^9) [bl,bC.m,bC.b,aa,setAt,h1,h2,r1,c,el,el2,eg,ab]
 ·rw[if_neg c] at em;subst em;simp (maxSteps:=9^9) [bl,bC.m,bC.b,aa,setAt,h1,h2,r1,c,el,el2,eg,ab]
def JD(s:aT)(g:Int)(i:Nat)(x:Nat):St:={t:=[(1,.c (I g)),(2,.c (.ptr 2 2000000 0 0)),(5,.c (I i))],o:=[(2,⟨2000000,4,true,true,[ai s]⟩)],n:=x}
theorem dj.ar(h:dj.k M)(s:aT)(g:Int)(hl:s.boxes.length≤1048576):run M 196 [.a (ai s),.c (I g)] []=some (.c (I (dy (kU s.boxes g))),[]):=by
 refine aB (b:=dj.m) h ⟨s.boxes.length+1, ?_⟩;have er:(s.boxes.map af).length=s.boxes.length:=by simp
 obtain⟨g',hr⟩:=lT (f:=ct (run M) (s.boxes.length+1) dj.l0) s.boxes.length (sm (fun b:bz=>decide (b.gid=g)) s.boxes) (JD s g) jl oB
  (fun i hi x c=>by
   rw[jh _ _ _ hi] at c;simp only[decide_eq_false_iff_not] at c;have e5:=cA (i:=i) (by omega);have a1:∀hh,(s.boxes.map af)[i]'hh=af s.boxes[i]:=by intro hh;simp
   simp only[JD,ai,boxes,ints];simp only[af] at a1;generalize s.boxes.map af=rb at*;simp (maxSteps:=9^9) [dj.l0,hi,c,e5,er,a1])
  (fun i hi x c=>by
   rw[jh _ _ _ hi] at c;simp only[decide_eq_true_eq] at c;have a1:∀hh,(s.boxes.map af)[i]'hh=af s.boxes[i]:=by intro hh;simp
   simp only[JD,ai,boxes,ints];simp only[af] at a1;generalize s.boxes.map af=rb at*;simp (maxSteps:=9^9) [dj.l0,hi,c,er,a1,jl];exact⟨⟨[],[],_⟩,rfl⟩)
  (fun x=>by
   simp only[JD,ai,boxes,ints];generalize s.boxes.map af=rb at*;simp (maxSteps:=9^9) [dj.l0,er,jl])
 unfold kU;cases hm:dW (sm (fun b:bz=>decide (b.gid=g)) s.boxes) s.boxes.length with
 |none=>
  simp[JD,hm,jl] at hr;simp only[ai,boxes,ints] at*;simp (maxSteps:=9^9) [bl,dj.m,dj.b,aa,hr,dy]
 |some k=>
  simp[JD,hm,jl] at hr;simp only[ai,boxes,ints] at*;simp (maxSteps:=9^9) [bl,dj.m,dj.b,aa,hr,dy]
theorem dG.ar(h:dG.k M)(s:aT)(hs: -1000000000≤s.time∧s.time≤1000000000):run M 301 [.a (ai s)] []=some (.a [I (s.time+1),I s.eE],[]):=by
 refine aB (b:=dG.m) h ⟨0, ?_⟩;have e5:IntKind.i64.wrap (s.time+1)=s.time+1:=wrap_i64 (by omega) (by omega);simp only[ai,boxes,ints];simp (maxSteps:=9^9) [bl,dG.m,dG.b,aa,setAt,e5]
def J7(s:aT)(i v:Nat):List (Nat×Ob):=[(1,⟨2000000,4,true,true,[ai s]⟩),(2,⟨2000016,4,true,true,[ny]⟩),(3,⟨2000048,4,true,true,[[I s.eE,I s.time,.row 6 v 0 i,ints s.gone]]⟩),(6,⟨v,7,true,false,(s.boxes.take i).map af⟩)]
def KT(s:aT)(i:Nat)(x:Nat×Nat):St:={t:=[(1,.c (.ptr 1 2000000 0 0)),(2,.c (.ptr 2 2000016 0 0)),(3,.c (.ptr 3 2000048 0 0)),(4,.c (I i))],o:=J7 s i x.1,n:=x.2}
def LF(s:aT)(x:Nat×Nat):St:={t:=[(1,.c (.ptr 1 2000000 0 0)),(2,.c (.ptr 2 2000016 0 0)),(3,.c (.ptr 3 2000048 0 0)),(4,.c (I s.boxes.length)),(12,.c (.bool false))],o:=J7 s s.boxes.length x.1,n:=x.2}
theorem cj.ar(h:cj.k M)(s:aT)(hs:g_ s):run M 219 [.a (ai s)] []=some (.a (aW s),[]):=by
 obtain⟨h0,k1⟩:=h;have hbl:=hs.b;have hgl:=hs.g;refine aB (b:=cj.m) h0 ⟨s.boxes.length+1, ?_⟩;have er:(s.boxes.map af).length=s.boxes.length:=by simp
 obtain⟨g,hr⟩:=ju (f:=ct (run M) (s.boxes.length+1) cj.l0) s.boxes.length (KT s) 0 (LF s)
  (fun i hi x=>by
   obtain⟨v,n⟩:=x;have h2:=b6.ar k1 s.boxes[i] (hs.i _ (ax hi));have e5:=cA (i:=i) (by omega);have e6:i+1≤4294967296:=by omega
   have e7:((s.boxes.take i).map af).length=i:=by simp;omega
   have e8:((s.boxes.take (i+1)).map af)=(s.boxes.take i).map af++[af s.boxes[i]]:=by rw[gK _ _ hi,cH];rfl
   have a1:∀hh,(s.boxes.map af)[i]'hh=af s.boxes[i]:=by intro hh;simp
   simp only[aE,KT,J7,e8,ai,boxes,ints];simp only[af,cd,ae,ints] at h2 a1 ⊢;generalize (s.boxes.take i).map af=rr at*;generalize s.boxes.map af=rb at*;generalize s.boxes[i].ae.map ah=rm at*;generalize az s.boxes[i].gone=rg at*;generalize az s.gone=rs at*;simp (maxSteps:=9^9) [cj.l0,aa,setAt,hi,h2,e5,e6,e7,er,a1,ab])
  (fun x=>by
   obtain⟨v,n⟩:=x;simp only[aE,KT,LF,J7,ai,boxes,ints];generalize (s.boxes.take s.boxes.length).map af=rr at*;generalize s.boxes.map af=rb at*;generalize az s.gone=rs at*;simp (maxSteps:=9^9) [cj.l0,aa,er])
 have hr0:=hr (2000080,2000144);generalize g (2000080,2000144)=y at*;obtain⟨v,n⟩:=y;have ez:((0:Nat):Int)=0:=rfl;have eg:=aM s.gone;have e9:s.gone.length≤4294967296:=by omega
 simp only[KT,LF,J7,ez,List.take_zero,bJ,List.take_length,ai,boxes,ints] at hr0;simp only[ai,aW,boxes,ints];generalize s.boxes.map af=rb at*;generalize az s.gone=rs at*;simp (maxSteps:=9^9) [bl,cj.m,cj.b,aa,setAt,hr0,er,eg,e9,ab]
def m7(b:bz)(g:Int):Bool:=(fD b.ae g).isSome||decide (g∈b.gone)
def nC(s:aT)(g:Int):Bool:=(kU s.boxes g).isSome||decide (g∈s.gone)||s.boxes.any fun b=>m7 b g
def JC(s:aT)(g:Int)(i:Nat)(x:Nat):St:={t:=[(1,.c (I g)),(2,.c (.ptr 2 2000000 0 0)),(5,.c (I i))],o:=[(2,⟨2000000,4,true,true,[ai s]⟩)],n:=x}
def LD(s:aT)(g:Int)(x:Nat):St:={t:=[(1,.c (I g)),(2,.c (.ptr 2 2000000 0 0)),(5,.c (I s.boxes.length)),(20,.c (.bool false))],o:=[(2,⟨2000000,4,true,true,[ai s]⟩)],n:=x}
theorem p9(p:bz→Bool)(l:List bz):l.any p=(dW (sm p l) l.length).isSome:=by
 cases q:dW (sm p l) l.length with
 |none=>
  have hn:=kW q;have:l.any p=false:=by
   rw[List.any_eq_false];intro b hb;obtain⟨j,hj,rfl⟩:=bV hb;have:=hn j hj;rw[jh _ _ _ hj] at this;simp[this]
  rw[this];rfl
 |some k=>
  obtain⟨h1,h2,_⟩:=kV q;rw[jh _ _ _ h1] at h2;have:l.any p=true:=List.any_eq_true.2 ⟨_,ax h1,h2⟩;rw[this];rfl
theorem kz(q:Option Nat):decide ((0:Int)≤dy q)=q.isSome:=by
 cases q with
 |none=>rfl
 |some k=>exact decide_eq_true (Int.natCast_nonneg k)
theorem ei.ar(h:ei.k M)(s:aT)(g:Int)(hs:g_ s):run M 300 [.a (ai s),.c (I g)] []=some (.c (.bool (nC s g)),[]):=by
 obtain⟨h0,ka,ki,kb⟩:=h;have hbl:=hs.b;have hgl:=hs.g;have h1:=dj.ar kb s g hbl;have h2:=bf.ar ki s.gone g (by omega);refine aB (b:=ei.m) h0 ⟨s.boxes.length+1, ?_⟩;have er:(s.boxes.map af).length=s.boxes.length:=by simp
 obtain⟨g',hr⟩:=gV (f:=ct (run M) (s.boxes.length+1) ei.l0) s.boxes.length (sm (fun b=>m7 b g) s.boxes) (JC s g) 4 (.bool true) 0 (LD s g)
  (fun i hi x c=>by
   rw[jh _ _ _ hi] at c;have hb:=hs.i _ (ax hi);have h3:=bM.ar ka s.boxes[i] g hb.m;have h4:=bf.ar ki s.boxes[i].gone g (by have:=hb.g;omega);have e5:=cA (i:=i) (by omega);have a1:∀hh,(s.boxes.map af)[i]'hh=af s.boxes[i]:=by intro hh;simp
   unfold m7 at c;simp only[fG] at c;obtain⟨c1,c2⟩:=c;rw[c2] at h4;have c3:¬(0:Int)≤dy (fD s.boxes[i].ae g):=by
    have:=kz (fD s.boxes[i].ae g);rw[c1] at this;simpa using this
   simp only[JC,ai,boxes,ints];simp only[af,ae,ints] at h3 h4 a1;generalize dy (fD s.boxes[i].ae g)=z at*;generalize s.boxes.map af=rb at*;generalize s.boxes[i].ae.map ah=rm at*;generalize az s.boxes[i].gone=rg at*;simp (maxSteps:=9^9) [ei.l0,hi,h3,h4,c3,e5,er,a1,ab])
  (fun i hi x c=>by
   rw[jh _ _ _ hi] at c;have hb:=hs.i _ (ax hi);have h3:=bM.ar ka s.boxes[i] g hb.m;have h4:=bf.ar ki s.boxes[i].gone g (by have:=hb.g;omega);have a1:∀hh,(s.boxes.map af)[i]'hh=af s.boxes[i]:=by intro hh;simp
   unfold m7 at c;have c3:=kz (fD s.boxes[i].ae g);simp only[JC,ai,boxes,ints];simp only[af,ae,ints] at h3 h4 a1;generalize dy (fD s.boxes[i].ae g)=z at*;generalize (fD s.boxes[i].ae g).isSome=w at*;generalize decide (g∈s.boxes[i].gone)=w2 at*;generalize s.boxes.map af=rb at*;generalize s.boxes[i].ae.map ah=rm at*;generalize az s.boxes[i].gone=rg at*;cases w
   ·simp only[decide_eq_false_iff_not] at c3;simp only[Bool.false_or] at c;subst c;simp (maxSteps:=9^9) [ei.l0,hi,h3,h4,c3,er,a1,ab]
   ·simp only[decide_eq_true_eq] at c3;simp (maxSteps:=9^9) [ei.l0,hi,h3,c3,er,a1,ab])
  (fun x=>by
   simp only[JC,LD,ai,boxes,ints];generalize s.boxes.map af=rb at*;simp (maxSteps:=9^9) [ei.l0,er])
 have hany:=p9 (fun b=>m7 b g) s.boxes;have c0:=kz (kU s.boxes g);unfold nC;rw[hany];generalize (kU s.boxes g).isSome=w1 at*;generalize dy (kU s.boxes g)=z at*;generalize decide (g∈s.gone)=w2 at*;have ez:((0:Nat):Int)=0:=rfl;cases w1
 ·simp only[decide_eq_false_iff_not] at c0;cases w2
  ·cases hq:dW (sm (fun b=>m7 b g) s.boxes) s.boxes.length with
   |none=>
    simp only[JC,LD,hq,j7,ez] at hr;simp only[ai,boxes,ints] at*;simp (maxSteps:=9^9) [bl,ei.m,ei.b,aa,h1,h2,c0,hr,ab]
   |some q=>
    simp only[JC,hq,j7,ez] at hr;simp only[ai,boxes,ints] at*;simp (maxSteps:=9^9) [bl,ei.m,ei.b,aa,h1,h2,c0,hr,ab]
  ·simp only[ai,boxes,ints] at*;simp (maxSteps:=9^9) [bl,ei.m,ei.b,aa,h1,h2,c0,ab]
 ·simp only[decide_eq_true_eq] at c0;simp only[ai,boxes,ints] at*;simp (maxSteps:=9^9) [bl,ei.m,ei.b,aa,h1,c0,ab]
theorem wJ{b:bz}(hb:gT b)(g f:Int)(x:List UInt8)(t w:Int):gT (j5 b g f x t w).1:=by
 unfold j5;split
 ·rename_i c;exact(pg.1 c.2.2.2.2).th
 ·exact hb
theorem ug{b:bz}(hb:gT b)(g n t w:Int):gT (jo b g n t w).1:=by
 unfold jo;split
 ·exact hb
 ·split
  ·exact hb
  ·rename_i k hk m hm;split
   ·refine⟨by simpa using hb.m,hb.g,hb.n,fun m' hm'=> ?_⟩;obtain⟨j,hj,rfl⟩:=bV hm';simp only[List.getElem_set];split
    ·have e:(lL m.flags n t w).length=m.flags.length:=by unfold lL;split<;>simp
     simp only[e];exact hb.f m (iA hm)
    ·exact hb.f _ (ax _)
   ·exact hb
def gg(s:aT)(i:Nat)(b:bz):aT:={s with boxes:=s.boxes.set i b,time:=s.time+1}
def stamped(s:aT)(i:Nat)(b:bz):aT×Bool:=if bc (gg s i b)=true then(gg s i b,true) else(s,false)
structure lW (s:aT):Prop where
 lR:g_ s
 time: -1000000000≤s.time∧s.time≤1000000000
theorem mI{s:aT}(hs:g_ s){i:Nat}(hi:i<s.boxes.length){b:bz}(hb:gT b)(hm:(s.boxes.flatMap b5).length+b.ae.length≤1048576):g_ (gg s i b):=by
 refine⟨by simpa [gg] using hs.b,hs.g,fun x hx=> ?_, ?_⟩
 ·rcases List.mem_or_eq_of_mem_set hx with q|q
  ·exact hs.i x q
  ·rw[q];exact hb
 ·have e:s.boxes.set i b=s.boxes.take i++b::s.boxes.drop (i+1):=List.set_eq_take_append_cons_drop.trans (by rw[if_pos hi]);simp only[gg];rw[e];have hsub:((s.boxes.take i).flatMap b5).length+((s.boxes.drop (i+1)).flatMap b5).length≤(s.boxes.flatMap b5).length:=by
   conv=>rhs;rw[←cX i s.boxes,bA hi]
   simp only[List.flatMap_append,cC,aF];omega
  simp only[List.flatMap_append,cC,aF,b5,fP] at hsub hm ⊢;omega
theorem dX.ar(h:dX.k M)(s:aT)(hs:lW s)(i:Nat)(hi:i<s.boxes.length)(b:bz)(hb:gT b)(hm:(s.boxes.flatMap b5).length+b.ae.length≤1048576):
  run M 302 [.a (ai s),.c (I i),.a (af b)] []=some (.ll [.a (aW (stamped s i b).1),.c (.bool (stamped s i b).2)],[]):=by
 obtain⟨h0,ko,kc⟩:=h;have ht:=hs.time;have h1:=cj.ar kc s hs.lR;have h2:=aI.ar ko (gg s i b) (mI hs.lR hi hb hm);refine aB (b:=dX.m) h0 ⟨0, ?_⟩;have e5:IntKind.i64.wrap (s.time+1)=s.time+1:=wrap_i64 (by omega) (by omega);have er:(s.boxes.map af).length=s.boxes.length:=by simp
 have eg:=aM s.gone;have es:(gg s i b).boxes.map af=(s.boxes.map af).set i (af b):=by simp only[gg,gZ]
 have ew:(gg s i b).eE=s.eE:=rfl;have et:(gg s i b).time=s.time+1:=rfl;have egn:(gg s i b).gone=s.gone:=rfl;have a1:∀hh,(s.boxes.map af)[i]'hh=af s.boxes[i]:=by intro hh;simp
 unfold stamped;cases c:bc (gg s i b) with
 |true=>
  rw[c] at h2;rw[if_pos rfl];simp only[ai,aW,boxes,ints,es,ew,et,egn] at h1 h2 ⊢;clear es c;simp only[af,ae,ints] at h2 a1 ⊢;generalize s.boxes.map af=rb at*;generalize az s.gone=rs at*;generalize s.boxes[i].ae.map ah=r1 at*;generalize az s.boxes[i].gone=r2 at*;generalize b.ae.map ah=r3 at*;generalize az b.gone=r4 at*;simp (maxSteps:=9^9) [bl,dX.m,dX.b,aa,setAt,hi,h1,h2,e5,er,eg,a1,ab]
 |false=>
  rw[c] at h2;rw[if_neg (by decide)];simp only[ai,aW,boxes,ints,es,ew,et,egn] at h1 h2 ⊢;clear es c;simp only[af,ae,ints] at h2 a1 ⊢;generalize s.boxes.map af=rb at*;generalize az s.gone=rs at*;generalize s.boxes[i].ae.map ah=r1 at*;generalize az s.boxes[i].gone=r2 at*;generalize b.ae.map ah=r3 at*;generalize az b.gone=r4 at*;simp (maxSteps:=9^9) [bl,dX.m,dX.b,aa,setAt,hi,h1,h2,e5,er,eg,a1,ab]
def at_(s:aT)(g:Int)(f:Nat→bz→aT×Bool):aT×Bool:=match kU s.boxes g with
 |none=>(s,false)
 |some i=>match s.boxes[i]? with
  |none=>(s,false)
  |some b=>f i b
theorem lh{s:aT}{g:Int}{f:Nat→bz→aT×Bool}(h:kU s.boxes g=none):at_ s g f=(s,false):=by simp only[at_,h]
theorem lg{s:aT}{g:Int}{f:Nat→bz→aT×Bool}{i:Nat}(h:kU s.boxes g=some i)(hi:i<s.boxes.length):at_ s g f=f i s.boxes[i]:=by simp only[at_,h,cB hi]
def lG(s:aT)(g m f:Int)(x:List UInt8):aT×Bool:=if bc s=true∧nC s m=false then at_ s g fun i b=>if(j5 b m f x (s.time+1) s.eE).2=true then stamped s i (j5 b m f x (s.time+1) s.eE).1 else(s,false) else(s,false)
def kf(s:aT)(g m f:Int):aT×Bool:=if bc s=true then at_ s g fun i b=>if(jo b m f (s.time+1) s.eE).2=true then stamped s i (jo b m f (s.time+1) s.eE).1 else(s,false) else(s,false)
def kE(s:aT)(g m:Int):aT×Bool:=if bc s=true then at_ s g fun i b=>if(jH b m).2=true then({s with boxes:=s.boxes.set i (jH b m).1},true) else(s,false) else(s,false)
theorem m8{s:aT}(h:bc s=true):(s.boxes.flatMap b5).length≤50:=by
 have G:=(eh h).boxes;have key:∀l:List bz,(∀x∈l,x.ae.length≤10)→(l.flatMap b5).length≤10*l.length:=by
  intro l
  induction l with
  |nil=>intro _;simp
  |cons x l ih=>
   intro h;have h1:=ih fun y hy=>h y (bp _ hy)
   have h2:=h x (bj ..);simp only[cC,aF,b5,fP,b7] at h1 ⊢;omega
 have:=key s.boxes fun x hx=>(G.lf x hx).len
 have:=G.len;omega
theorem rH{b:bz}(hb:Good b)(g f:Int)(x:List UInt8)(t w:Int):(j5 b g f x t w).1.ae.length≤11:=by
 unfold j5;split
 ·rename_i c;exact Nat.le_trans (pg.1 c.2.2.2.2).len (by omega)
 ·have:=hb.len;simp only;omega
theorem qp{b:bz}(hb:Good b)(g n t w:Int):(jo b g n t w).1.ae.length≤11:=by
 have:=hb.len;unfold jo;split
 ·simp only;omega
 ·split
  ·simp only;omega
  ·split
   ·simp only[List.length_set];omega
   ·simp only;omega
theorem dq.ar(h:dq.k M)(s:aT)(hs:lW s)(g m f:Int)(x:List UInt8):
  run M 279 [.a (ai s),.c (I g),.c (I m),.c (I f),.c (S x)] []=some (.ll [.a (aW (lG s g m f x).1),.c (.bool (lG s g m f x).2)],[]):=by
 obtain⟨h0,ka,ko,kb,kc,kk,kn,kst⟩:=h;have h1:=dj.ar kb s g hs.lR.b;have h2:=aI.ar ko s hs.lR;have h3:=ei.ar kk s m hs.lR;have h4:=cj.ar kc s hs.lR;have h5:=dG.ar kn s hs.time;have er:(s.boxes.map af).length=s.boxes.length:=by simp
 have eg:=aM s.gone;refine aB (b:=dq.m) h0 ⟨0, ?_⟩;unfold lG;cases c1:bc s with
 |false=>
  rw[c1] at h2;simp only[au,false_and,if_false];simp only[ai,aW,boxes,ints] at*;generalize s.boxes.map af=rb at*;generalize az s.gone=rs at*;simp (maxSteps:=9^9) [bl,dq.m,dq.b,aa,setAt,h1,h2,h4,er,eg,ab]
 |true=>
  rw[c1] at h2;cases c2:nC s m with
  |true=>
   rw[c2] at h3;simp only[Bool.true_eq_false,and_false,if_false];simp only[ai,aW,boxes,ints] at*;generalize s.boxes.map af=rb at*;generalize az s.gone=rs at*;simp (maxSteps:=9^9) [bl,dq.m,dq.b,aa,setAt,h1,h2,h3,h4,er,eg,ab]
  |false=>
   rw[c2] at h3;rw[if_pos ⟨rfl,rfl⟩];cases c3:kU s.boxes g with
   |none=>
    rw[c3] at h1;rw[lh c3];simp only[ai,aW,boxes,ints,dy] at*;generalize s.boxes.map af=rb at*;generalize az s.gone=rs at*;simp (maxSteps:=9^9) [bl,dq.m,dq.b,aa,setAt,h1,h2,h3,h4,er,eg,ab]
   |some i=>
    rw[c3] at h1;obtain⟨hi,_⟩:=iB c3;rw[lg c3 hi];have hG:=(eh c1).boxes.lf _ (ax hi);have h6:=dU.ar ka s.boxes[i] hG.th m f x (s.time+1) s.eE;have hin:=wJ hG.th m f x (s.time+1) s.eE;have h7:=dX.ar kst s hs i hi (j5 s.boxes[i] m f x (s.time+1) s.eE).1 hin (by have:=m8 c1;have:=rH hG m f x (s.time+1) s.eE;omega);have a1:∀hh,(s.boxes.map af)[i]'hh=af s.boxes[i]:=by intro hh;simp
    have ni:¬(i:Int)<0:=by omega
    generalize j5 s.boxes[i] m f x (s.time+1) s.eE=A at*;obtain⟨b',ok⟩:=A;generalize stamped s i b'=B at*;obtain⟨s',ok'⟩:=B;have er2:(s'.boxes.map af).length=s'.boxes.length:=by simp
    have eg2:=aM s'.gone;simp only[ai,aW,boxes,ints,dy] at h1 h2 h3 h4 h5 h7 ⊢;simp only[af,cd,ae,ints] at h6 h7 a1;generalize hrb:s.boxes.map af=rb at*;generalize hrs:az s.gone=rs at*;generalize s.boxes[i].ae.map ah=r1 at*;generalize az s.boxes[i].gone=r2 at*;generalize b'.ae.map ah=r3 at*;generalize az b'.gone=r4 at*;cases ok
    ·simp only[au,if_false];simp (maxSteps:=9^9) [bl,dq.m,dq.b,aa,setAt,hi,ni,h1,h2,h3,h4,h5,h6,er,eg,a1,ab];exact⟨hrb.symm,hrs.symm⟩
    ·simp only[if_true];generalize s'.boxes.map af=rb' at*;generalize az s'.gone=rs' at*;simp (maxSteps:=9^9) [bl,dq.m,dq.b,aa,setAt,hi,ni,h1,h2,h3,h5,h6,h7,er,er2,eg2,a1,ab]
theorem dg.ar(h:dg.k M)(s:aT)(hs:lW s)(g m f:Int):
  run M 280 [.a (ai s),.c (I g),.c (I m),.c (I f)] []=some (.ll [.a (aW (kf s g m f).1),.c (.bool (kf s g m f).2)],[]):=by
 obtain⟨h0,ka,ko,kb,kc,kn,kst⟩:=h;have h1:=dj.ar kb s g hs.lR.b;have h2:=aI.ar ko s hs.lR;have h4:=cj.ar kc s hs.lR;have h5:=dG.ar kn s hs.time;have er:(s.boxes.map af).length=s.boxes.length:=by simp
 have eg:=aM s.gone;refine aB (b:=dg.m) h0 ⟨0, ?_⟩;unfold kf;cases c1:bc s with
 |false=>
  rw[c1] at h2;simp only[au,if_false];simp only[ai,aW,boxes,ints] at*;generalize s.boxes.map af=rb at*;generalize az s.gone=rs at*;simp (maxSteps:=9^9) [bl,dg.m,dg.b,aa,setAt,h1,h2,h4,er,eg,ab]
 |true=>
  rw[c1] at h2;rw[if_pos rfl];cases c3:kU s.boxes g with
  |none=>
   rw[c3] at h1;rw[lh c3];simp only[ai,aW,boxes,ints,dy] at*;generalize s.boxes.map af=rb at*;generalize az s.gone=rs at*;simp (maxSteps:=9^9) [bl,dg.m,dg.b,aa,setAt,h1,h2,h4,er,eg,ab]
  |some i=>
   rw[c3] at h1;obtain⟨hi,_⟩:=iB c3;rw[lg c3 hi];have hG:=(eh c1).boxes.lf _ (ax hi);have h6:=dB.ar ka s.boxes[i] hG.th m f (s.time+1) s.eE;have hin:=ug hG.th m f (s.time+1) s.eE;have h7:=dX.ar kst s hs i hi (jo s.boxes[i] m f (s.time+1) s.eE).1 hin (by have:=m8 c1;have:=qp hG m f (s.time+1) s.eE;omega);have a1:∀hh,(s.boxes.map af)[i]'hh=af s.boxes[i]:=by intro hh;simp
   have ni:¬(i:Int)<0:=by omega
   generalize jo s.boxes[i] m f (s.time+1) s.eE=A at*;obtain⟨b',ok⟩:=A;generalize stamped s i b'=B at*;obtain⟨s',ok'⟩:=B;have er2:(s'.boxes.map af).length=s'.boxes.length:=by simp
   have eg2:=aM s'.gone;simp only[ai,aW,boxes,ints,dy] at h1 h2 h4 h5 h7 ⊢;simp only[af,cd,ae,ints] at h6 h7 a1;generalize hrb:s.boxes.map af=rb at*;generalize hrs:az s.gone=rs at*;generalize s.boxes[i].ae.map ah=r1 at*;generalize az s.boxes[i].gone=r2 at*;generalize b'.ae.map ah=r3 at*;generalize az b'.gone=r4 at*;cases ok
   ·simp only[au,if_false];simp (maxSteps:=9^9) [bl,dg.m,dg.b,aa,setAt,hi,ni,h1,h2,h4,h5,h6,er,eg,a1,ab];exact⟨hrb.symm,hrs.symm⟩
   ·simp only[if_true];generalize s'.boxes.map af=rb' at*;generalize az s'.gone=rs' at*;simp (maxSteps:=9^9) [bl,dg.m,dg.b,aa,setAt,hi,ni,h1,h2,h5,h6,h7,er,er2,eg2,a1,ab]
theorem dh.ar(h:dh.k M)(s:aT)(hs:lW s)(g m:Int):
  run M 281 [.a (ai s),.c (I g),.c (I m)] []=some (.ll [.a (aW (kE s g m).1),.c (.bool (kE s g m).2)],[]):=by
 obtain⟨h0,kt,ko,kb,kc⟩:=h;have h1:=dj.ar kb s g hs.lR.b;have h2:=aI.ar ko s hs.lR;have h4:=cj.ar kc s hs.lR;have er:(s.boxes.map af).length=s.boxes.length:=by simp
 have eg:=aM s.gone;refine aB (b:=dh.m) h0 ⟨0, ?_⟩;unfold kE;cases c1:bc s with
 |false=>
  rw[c1] at h2;simp only[au,if_false];simp only[ai,aW,boxes,ints] at*;generalize s.boxes.map af=rb at*;generalize az s.gone=rs at*;simp (maxSteps:=9^9) [bl,dh.m,dh.b,aa,setAt,h1,h2,h4,er,eg,ab]
 |true=>
  rw[c1] at h2;rw[if_pos rfl];cases c3:kU s.boxes g with
  |none=>
   rw[c3] at h1;rw[lh c3];simp only[ai,aW,boxes,ints,dy] at*;generalize s.boxes.map af=rb at*;generalize az s.gone=rs at*;simp (maxSteps:=9^9) [bl,dh.m,dh.b,aa,setAt,h1,h2,h4,er,eg,ab]
  |some i=>
   rw[c3] at h1;obtain⟨hi,_⟩:=iB c3;rw[lg c3 hi];have hG:=(eh c1).boxes.lf _ (ax hi);have h6:=cZ.ar kt s.boxes[i] hG.th m;have a1:∀hh,(s.boxes.map af)[i]'hh=af s.boxes[i]:=by intro hh;simp
   have ni:¬(i:Int)<0:=by omega
   generalize jH s.boxes[i] m=A at*;obtain⟨b',ok⟩:=A;have es:(s.boxes.set i b').map af=(s.boxes.map af).set i (af b'):=gZ;simp only[ai,aW,boxes,ints,dy] at h1 h2 h4 ⊢;simp only[af,cd,ae,ints] at h6 a1 es;cases ok
   ·simp only[au,if_false];generalize s.boxes.map af=rb at*;generalize az s.gone=rs at*;generalize s.boxes[i].ae.map ah=r1 at*;generalize az s.boxes[i].gone=r2 at*;generalize b'.ae.map ah=r3 at*;generalize az b'.gone=r4 at*;simp (maxSteps:=9^9) [bl,dh.m,dh.b,aa,setAt,hi,ni,h1,h2,h4,h6,er,eg,a1,ab]
   ·simp only[if_true,es];clear es;generalize s.boxes.map af=rb at*;generalize az s.gone=rs at*;generalize s.boxes[i].ae.map ah=r1 at*;generalize az s.boxes[i].gone=r2 at*;generalize b'.ae.map ah=r3 at*;generalize az b'.gone=r4 at*;simp (maxSteps:=9^9) [bl,dh.m,dh.b,aa,setAt,hi,ni,h1,h2,h4,h6,er,eg,a1,ab]
def jn(s:aT)(nm:List UInt8)(b:bz):bz:={b with name:=nm,time:=s.time+1,eE:=s.eE}
def jI(s:aT)(g:Int)(nm:List UInt8):aT×Bool:=if bc s=true∧(named s.boxes nm).isSome=false then at_ s g fun i b=>stamped s i (jn s nm b) else(s,false)
theorem cF.ar(h:cF.k M)(s:aT)(hs:lW s)(g:Int)(nm:List UInt8)(hn:nm.length≤1048576):
  run M 282 [.a (ai s),.c (I g),.c (S nm)] []=some (.ll [.a (aW (jI s g nm).1),.c (.bool (jI s g nm).2)],[]):=by
 obtain⟨h0,ko,kb,kc,kn,kst⟩:=h;have ht:=hs.time;have h1:=dj.ar kb s g hs.lR.b;have h2:=aI.ar ko s hs.lR;have h3:=cz.ar kn s nm hs.lR.b;have h4:=cj.ar kc s hs.lR;have h5:=dG.ar kst s hs.time;have er:(s.boxes.map af).length=s.boxes.length:=by simp
 have eg:=aM s.gone;have e5:IntKind.i64.wrap (s.time+1)=s.time+1:=wrap_i64 (by omega) (by omega);refine aB (b:=cF.m) h0 ⟨0, ?_⟩;unfold jI;cases c1:bc s with
 |false=>
  rw[c1] at h2;simp only[au,false_and,if_false];simp only[ai,aW,boxes,ints] at*;generalize s.boxes.map af=rb at*;generalize az s.gone=rs at*;simp (maxSteps:=9^9) [bl,cF.m,cF.b,aa,setAt,h1,h2,h4,er,eg,ab]
 |true=>
  rw[c1] at h2;cases c3:kU s.boxes g with
  |none=>
   rw[c3] at h1;have e:(if true=true∧(named s.boxes nm).isSome=false then at_ s g fun i b=>stamped s i (jn s nm b) else(s,false))=(s,false):=by
    rw[lh c3];split<;>rfl
   rw[e];simp only[ai,aW,boxes,ints,dy] at*;generalize s.boxes.map af=rb at*;generalize az s.gone=rs at*;simp (maxSteps:=9^9) [bl,cF.m,cF.b,aa,setAt,h1,h2,h4,er,eg,ab]
  |some i=>
   rw[c3] at h1;obtain⟨hi,_⟩:=iB c3;have ni:¬(i:Int)<0:=by omega
   have c0:=kz (named s.boxes nm);cases c2:(named s.boxes nm).isSome with
   |true=>
    rw[c2] at c0;simp only[decide_eq_true_eq] at c0;simp only[Bool.true_eq_false,and_false,if_false];generalize dy (named s.boxes nm)=z at*;simp only[ai,aW,boxes,ints,dy] at*;generalize s.boxes.map af=rb at*;generalize az s.gone=rs at*;simp (maxSteps:=9^9) [bl,cF.m,cF.b,aa,setAt,ni,c0,h1,h2,h3,h4,er,eg,ab]
   |false=>
    rw[c2] at c0;simp only[decide_eq_false_iff_not] at c0;rw[if_pos ⟨rfl,rfl⟩,lg c3 hi];have hG:=(eh c1).boxes.lf _ (ax hi);have hin:gT (jn s nm s.boxes[i]):=⟨hG.th.m,hG.th.g,hn,hG.th.f⟩;have h6:=aI.ar ko _ (mI hs.lR hi hin (by have:=m8 c1;have:=hG.len;simp only[jn];omega));have a1:∀hh,(s.boxes.map af)[i]'hh=af s.boxes[i]:=by intro hh;simp
    have es:(gg s i (jn s nm s.boxes[i])).boxes.map af=(s.boxes.map af).set i (af (jn s nm s.boxes[i])):=by simp only[gg,gZ]
    have ew:(gg s i (jn s nm s.boxes[i])).eE=s.eE:=rfl;have et:(gg s i (jn s nm s.boxes[i])).time=s.time+1:=rfl;have egn:(gg s i (jn s nm s.boxes[i])).gone=s.gone:=rfl;unfold stamped;generalize dy (named s.boxes nm)=z at*;cases c:bc (gg s i (jn s nm s.boxes[i])) with
    |true=>
     rw[c] at h6;rw[if_pos rfl];simp only[ai,aW,boxes,ints,dy,es,ew,et,egn] at h1 h2 h3 h4 h5 h6 ⊢;clear es c;simp only[af,ae,ints,jn] at h6 a1 ⊢;generalize s.boxes.map af=rb at*;generalize az s.gone=rs at*;generalize s.boxes[i].ae.map ah=r1 at*;generalize az s.boxes[i].gone=r2 at*;simp (maxSteps:=9^9) [bl,cF.m,cF.b,aa,setAt,hi,ni,c0,h1,h2,h3,h4,h5,h6,e5,er,eg,a1,ab]
    |false=>
     rw[c] at h6;rw[if_neg (by decide)];simp only[ai,aW,boxes,ints,dy,es,ew,et,egn] at h1 h2 h3 h4 h5 h6 ⊢;clear es c;simp only[af,ae,ints,jn] at h6 a1 ⊢;generalize s.boxes.map af=rb at*;generalize az s.gone=rs at*;generalize s.boxes[i].ae.map ah=r1 at*;generalize az s.boxes[i].gone=r2 at*;simp (maxSteps:=9^9) [bl,cF.m,cF.b,aa,setAt,hi,ni,c0,h1,h2,h3,h4,h5,h6,e5,er,eg,a1,ab]
def lI(s:aT)(g:Int):aT×Bool:=if bc s=true∧s.gone.length<20 then at_ s g fun i _=>({s with boxes:=s.boxes.take i++s.boxes.drop (i+1),gone:=jU s.gone g},true) else(s,false)
theorem dv.ar(h:dv.k M)(s:aT)(hs:lW s)(g:Int):
  run M 283 [.a (ai s),.c (I g)] []=some (.ll [.a (aW (lI s g).1),.c (.bool (lI s g).2)],[]):=by
 obtain⟨h0,kp,ko,kb,kc⟩:=h;have h1:=dj.ar kb s g hs.lR.b;have h2:=aI.ar ko s hs.lR;have h4:=cj.ar kc s hs.lR;have h5:=bX.ar kp s.gone g (by have:=hs.lR.g;omega);have er:(s.boxes.map af).length=s.boxes.length:=by simp
 have eg:=aM s.gone;have hbl:=hs.lR.b;refine aB (b:=dv.m) h0 ⟨0, ?_⟩;unfold lI;cases c1:bc s with
 |false=>
  rw[c1] at h2;simp only[au,false_and,if_false];simp only[ai,aW,boxes,ints] at*;generalize s.boxes.map af=rb at*;generalize az s.gone=rs at*;simp (maxSteps:=9^9) [bl,dv.m,dv.b,aa,setAt,h1,h2,h4,er,eg,ab]
 |true=>
  rw[c1] at h2;cases c3:kU s.boxes g with
  |none=>
   rw[c3] at h1;have e:(if true=true∧s.gone.length<20 then at_ s g fun i _=>({s with boxes:=s.boxes.take i++s.boxes.drop (i+1),gone:=jU s.gone g},true) else(s,false))=(s,false):=by
    rw[lh c3];split<;>rfl
   rw[e];simp only[ai,aW,boxes,ints,dy] at*;generalize s.boxes.map af=rb at*;generalize az s.gone=rs at*;simp (maxSteps:=9^9) [bl,dv.m,dv.b,aa,setAt,h1,h2,h4,er,eg,ab]
  |some i=>
   rw[c3] at h1;obtain⟨hi,_⟩:=iB c3;have ni:¬(i:Int)<0:=by omega
   by_cases c2:s.gone.length<20
   ·have c2':¬(20:Int)≤(s.gone.length:Int):=by omega
    have c2'':¬20≤s.gone.length:=by omega
    rw[if_pos ⟨rfl,c2⟩,lg c3 hi];have e5:=cA (i:=i) (by omega);have e6:(s.boxes.take i++s.boxes.drop (i+1)).map af=(s.boxes.map af).take i++(s.boxes.map af).drop (i+1):=by simp[List.map_take,List.map_drop]
    have e7:=aM (jU s.gone g);have e8:i≤s.boxes.length:=by omega
    have e9:i+(s.boxes.length-(i+1))≤4294967296:=by omega
    have e10:i≤4294967296:=by omega
    have e11:i+1≤s.boxes.length:=by omega
    have e12:Min.min i s.boxes.length=i:=by omega
    simp only[ai,aW,boxes,ints,dy,e6] at h1 h2 h4 h5 ⊢;generalize az (jU s.gone g)=rp at*;generalize s.boxes.map af=rb at*;generalize az s.gone=rs at*;have f1:(0:Int)≤(i:Int)+1:=by omega
    have f2:((i:Int)+1).toNat=i+1:=by omega
    by_cases c9:i+1=s.boxes.length
    ·have d1:rb.drop (i+1)=[]:=dY (by omega);have d2:rb.drop s.boxes.length=[]:=dY (by omega);have d3:s.boxes.length-(i+1)=0:=by omega
     have d4:¬s.boxes.length=0:=by omega
     rw[←c9] at hi er;simp (maxSteps:=9^9) [bl,dv.m,dv.b,aa,setAt,ni,c2',h1,h2,h4,h5,e5,e7,e10,d1,f1,f2,er,eg,ab]
    ·simp (maxSteps:=9^9) [bl,dv.m,dv.b,aa,setAt,ni,c2',c9,f1,f2,h1,h2,h4,h5,e5,e7,e8,e9,e10,e11,e12,er,eg,ab]
   ·have c2':(20:Int)≤(s.gone.length:Int):=by omega
    have c2'':20≤s.gone.length:=by omega
    simp only[c2,and_false,if_false];simp only[ai,aW,boxes,ints,dy] at*;generalize s.boxes.map af=rb at*;generalize az s.gone=rs at*;simp (maxSteps:=9^9) [bl,dv.m,dv.b,aa,setAt,ni,c2',h1,h2,h4,er,eg,ab]
structure Jr where
 s:aT
 g:Int
 N:List T
 u3:Nat
 u6:Nat
 u8:Nat
 u9:Nat
 w2:Nat
 w3:Nat
def DD(c:Jr)(v n:Nat):List T:=[I c.s.eE,I c.s.time,.row 30 v 0 n,.row 12903 c.w3 0 c.s.gone.length]
def JL(c:Jr)(i:Nat)(out:List bz)(y:Nat×Nat):St:={t:=[(1,.c (I c.g)),(3,.c (.ptr 3 c.u3 0 0)),(6,.c (.ptr 6 c.u6 0 0)),(8,.c (.ptr 8 c.u8 0 0)),(9,.c (.ptr 9 c.u9 0 0)),(10,.c (I i))],o:=[(3,⟨c.u3,4,true,true,[ai c.s]⟩),(6,⟨c.u6,4,true,true,[ny]⟩),(8,⟨c.u8,4,true,true,[DD c y.1 out.length]⟩),(9,⟨c.u9,7,true,true,[c.N]⟩),(30,⟨y.1,7,true,false,out.map af⟩),(12902,⟨c.w2,7,true,false,c.s.boxes.map af⟩),(12903,⟨c.w3,1,true,false,az c.s.gone⟩)],n:=y.2}
def K5(c:Jr)(out:List bz)(y:Nat×Nat):St:={t:=[(1,.c (I c.g)),(3,.c (.ptr 3 c.u3 0 0)),(6,.c (.ptr 6 c.u6 0 0)),(8,.c (.ptr 8 c.u8 0 0)),(9,.c (.ptr 9 c.u9 0 0)),(10,.c (I c.s.boxes.length)),(41,.c (.bool false))],o:=[(3,⟨c.u3,4,true,true,[ai c.s]⟩),(6,⟨c.u6,4,true,true,[ny]⟩),(8,⟨c.u8,4,true,true,[DD c y.1 out.length]⟩),(9,⟨c.u9,7,true,true,[c.N]⟩),(30,⟨y.1,7,true,false,out.map af⟩),(12902,⟨c.w2,7,true,false,c.s.boxes.map af⟩),(12903,⟨c.w3,1,true,false,az c.s.gone⟩)],n:=y.2}
def JK(c:Jr)(i:Nat)(out:List bz)(y:Nat×Nat):St:={t:=[(1,.c (I c.g)),(3,.c (.ptr 3 c.u3 0 0)),(6,.c (.ptr 6 c.u6 0 0)),(8,.c (.ptr 8 c.u8 0 0)),(11,.c (I i))],o:=[(3,⟨c.u3,4,true,true,[ai c.s]⟩),(6,⟨c.u6,4,true,true,[ny]⟩),(8,⟨c.u8,4,true,true,[DD c y.1 out.length]⟩),(30,⟨y.1,7,true,false,out.map af⟩),(12902,⟨c.w2,7,true,false,c.s.boxes.map af⟩),(12903,⟨c.w3,1,true,false,az c.s.gone⟩)],n:=y.2}
def K4(c:Jr)(out:List bz)(y:Nat×Nat):St:={t:=[(1,.c (I c.g)),(3,.c (.ptr 3 c.u3 0 0)),(6,.c (.ptr 6 c.u6 0 0)),(8,.c (.ptr 8 c.u8 0 0)),(11,.c (I c.s.boxes.length)),(73,.c (.bool false))],o:=[(3,⟨c.u3,4,true,true,[ai c.s]⟩),(6,⟨c.u6,4,true,true,[ny]⟩),(8,⟨c.u8,4,true,true,[DD c y.1 out.length]⟩),(30,⟨y.1,7,true,false,out.map af⟩),(12902,⟨c.w2,7,true,false,c.s.boxes.map af⟩),(12903,⟨c.w3,1,true,false,az c.s.gone⟩)],n:=y.2}
theorem pV(p:bz→Bool):∀(l s:List bz),l.foldl (fun s a=>if p a=true then s++[a] else s) s=s++l.filter p
 |[],s=>by simp
 |a::l,s=>by
  rw[eH,pV p l,h_];by_cases h:p a=true<;>simp[h]
theorem GF(kc:b6.k M)(k:Nat)(c:Jr)(hs:g_ c.s)(hk:c.s.boxes.length<k)(y:Nat×Nat):
  ∃z,eG (ct (run M) k bT.l0) k (JL c 0 [] y)=some (.exit 0,K5 c (c.s.boxes.filter fun b=>decide (b.gid<c.g)) z):=by
 have hbl:=hs.b;have er:(c.s.boxes.map af).length=c.s.boxes.length:=by simp
 obtain⟨g,hr⟩:=iS (f:=ct (run M) k bT.l0) c.s.boxes (fun s b=>if decide (b.gid<c.g)=true then s++[b] else s) (fun i s=>s.length≤i) (JL c) 0 (K5 c)
  (fun i h s hs=>by split<;>(try simp)<;>omega)
  (fun i hi s y hi2=>by
   obtain⟨v,n⟩:=y;have hB:=hs.i _ (ax hi);have h1:=b6.ar kc c.s.boxes[i] hB;have e5:=cA (i:=i) (by omega);have e6:s.length+1≤4294967296:=by omega
   have e9:(s.map af).length=s.length:=by simp
   have a1:∀hh,(c.s.boxes.map af)[i]'hh=af c.s.boxes[i]:=by intro hh;simp
   simp only[aE];by_cases q:c.s.boxes[i].gid<c.g
   ·simp only[q,decide_true,if_true,JL,DD,cH,bE,bJ,aF,bP];simp only[ai,af,cd,boxes,ae,ints] at a1 h1 ⊢;generalize c.s.boxes.map af=rb at*;generalize az c.s.gone=rs at*;generalize s.map af=ro at*;generalize c.s.boxes[i].ae.map ah=r1 at*;generalize az c.s.boxes[i].gone=r2 at*;simp (maxSteps:=9^9) [bT.l0,aa,setAt,hi,q,h1,e5,e6,e9,er,a1,ab]
   ·simp only[q,decide_false,au,if_false,JL,DD];simp only[ai,af,cd,boxes,ae,ints] at a1 h1 ⊢;generalize c.s.boxes.map af=rb at*;generalize az c.s.gone=rs at*;generalize s.map af=ro at*;generalize c.s.boxes[i].ae.map ah=r1 at*;generalize az c.s.boxes[i].gone=r2 at*;simp (maxSteps:=9^9) [bT.l0,aa,hi,q,e5,er,a1])
  (fun s y hs=>by
   obtain⟨v,n⟩:=y;simp only[aE,JL,K5,DD,ai,boxes,ints];generalize c.s.boxes.map af=rb at*;generalize az c.s.gone=rs at*;generalize s.map af=ro at*;simp (maxSteps:=9^9) [bT.l0,aa,er]) [] (by simp)
 rw[pV,List.nil_append] at hr;exact⟨_,gd (hr y) (by omega)⟩
theorem GD(kc:b6.k M)(k:Nat)(c:Jr)(hs:g_ c.s)(hk:c.s.boxes.length<k)(o0:List bz)(ho:o0.length≤2097152)(y:Nat×Nat):
  ∃z,eG (ct (run M) k bT.l1) k (JK c 0 o0 y)=some (.exit 2,K4 c (o0++c.s.boxes.filter fun b=>decide (c.g<b.gid)) z):=by
 have hbl:=hs.b;have er:(c.s.boxes.map af).length=c.s.boxes.length:=by simp
 obtain⟨g,hr⟩:=iS (f:=ct (run M) k bT.l1) c.s.boxes (fun s b=>if decide (c.g<b.gid)=true then s++[b] else s) (fun i s=>s.length≤2097152+i) (JK c) 2 (K4 c)
  (fun i h s hs=>by split<;>(try simp)<;>omega)
  (fun i hi s y hi2=>by
   obtain⟨v,n⟩:=y;have hB:=hs.i _ (ax hi);have h1:=b6.ar kc c.s.boxes[i] hB;have e5:=cA (i:=i) (by omega);have e6:s.length+1≤4294967296:=by omega
   have e9:(s.map af).length=s.length:=by simp
   have a1:∀hh,(c.s.boxes.map af)[i]'hh=af c.s.boxes[i]:=by intro hh;simp
   simp only[aE];by_cases q:c.g<c.s.boxes[i].gid
   ·simp only[q,decide_true,if_true,JK,DD,cH,bE,bJ,aF,bP];simp only[ai,af,cd,boxes,ae,ints] at a1 h1 ⊢;generalize c.s.boxes.map af=rb at*;generalize az c.s.gone=rs at*;generalize s.map af=ro at*;generalize c.s.boxes[i].ae.map ah=r1 at*;generalize az c.s.boxes[i].gone=r2 at*;simp (maxSteps:=9^9) [bT.l1,aa,setAt,hi,q,h1,e5,e6,e9,er,a1,ab]
   ·simp only[q,decide_false,au,if_false,JK,DD];simp only[ai,af,cd,boxes,ae,ints] at a1 h1 ⊢;generalize c.s.boxes.map af=rb at*;generalize az c.s.gone=rs at*;generalize s.map af=ro at*;generalize c.s.boxes[i].ae.map ah=r1 at*;generalize az c.s.boxes[i].gone=r2 at*;simp (maxSteps:=9^9) [bT.l1,aa,hi,q,e5,er,a1])
  (fun s y hs=>by
   obtain⟨v,n⟩:=y;simp only[aE,JK,K4,DD,ai,boxes,ints];generalize c.s.boxes.map af=rb at*;generalize az c.s.gone=rs at*;generalize s.map af=ro at*;simp (maxSteps:=9^9) [bT.l1,aa,er]) o0 (by omega)
 rw[pV] at hr;exact⟨_,gd (hr y) (by omega)⟩
end Mx
