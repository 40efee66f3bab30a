/-
  What more of the functions compute, each by a small evaluation; no condition beyond what each says.
-/
import Derived.HandedShaped
import Derived.Deep.Draws
import Derived.Handed
import Derived.LaidLaws
import Derived.LaidMore
import Derived.Lay
import Derived.SevenTiedAt
import Derived.Stop.Joined
import Derived.Test.YtolaaohibicllaaDoorMxRsb
set_option maxHeartbeats 16000000
set_option linter.unusedSimpArgs false
set_option linter.unusedVariables false
namespace Mx
open Go
attribute [-simp] bp step ev cQ gJ hC br
variable {M:Nat→Option Body}
def ds(r:List UInt8):List UInt8:=(r.takeWhile aO).take 4
theorem kf(r:List UInt8):(ds r).length≤4∧(ds r).length≤r.length:=by
 have:=(List.takeWhile_sublist (l:=r) aO).length_le;unfold ds;rw[dA];omega
theorem m0(r:List UInt8):(ds r).all aO=true:=by
 rw[ao];intro b hb;have h2:=List.all_takeWhile (p:=aO) (l:=r);rw[ao] at h2;exact h2 b (List.mem_of_mem_take hb)
theorem mZ(r:List UInt8):ds r<+:r:=(List.take_prefix _ _).trans (List.takeWhile_prefix _)
theorem pG{r:List UInt8}{j:Nat}(hj:j<(ds r).length):∃h:j<r.length,(ds r)[j]=r[j]∧aO r[j]=true:=by
 have h:=(kf r).2;refine⟨by omega,(mZ r).getElem hj, ?_⟩;have h2:=m0 r;rw[ao] at h2;have:=h2 _ (lY hj)
 rwa [(mZ r).getElem hj] at this
theorem ou:∀(r:List UInt8),(ds r).length<4→∀h:(ds r).length<r.length,aO r[(ds r).length]=false:=by
 have key:∀(r:List UInt8) (h:(r.takeWhile aO).length<r.length),aO r[(r.takeWhile aO).length]=false:=by
  intro r
  induction r with
  |nil=>intro h;simp at h
  |cons b r ih=>
   intro h;have hh:((b::r)[((b::r).takeWhile aO).length]?).map aO=some false:=by
    cases q:aO b with
    |false=>simp[q]
    |true=>
     have e:(b::r).takeWhile aO=b::r.takeWhile aO:=by simp[q]
     rw[e] at h ⊢;simp only[al] at h ⊢;have h':(r.takeWhile aO).length<r.length:=by omega
     rw[List.getElem?_cons_succ,cF h'];simp[ih h']
   rw[cF h] at hh;simpa using hh
 intro r h4 h;have e:ds r=r.takeWhile aO:=by
  unfold ds at h4 ⊢;rw[dA] at h4;exact ab (by omega)
 have h2:(r.takeWhile aO).length<r.length:=by rw[←e];exact h
 have:=key r h2;have e2:(ds r).length=(r.takeWhile aO).length:=by rw[e]
 simpa [e2] using this
def lu(l:List UInt8)(a:Nat)(j:Nat)(x:Nat):St:={t:=[(0,.c (S l)),(1,.c (I a)),(7,.c (I (val ((ds (l.drop a)).take j) 0))),(8,.c (I (a+j:Nat)))],o:=[],n:=x}
def mB(l:List UInt8)(a:Nat)(x:Nat):St:={t:=[(0,.c (S l)),(1,.c (I a)),(7,.c (I (val (ds (l.drop a)) 0))),(8,.c (I (a+(ds (l.drop a)).length:Nat))),(43,.c (.bool false))],o:=[],n:=x}
theorem mA(cf:au)(k:Nat)(l:List UInt8)(hl:l.length≤1048576)(a:Nat)(ha:a≤l.length):
  ∃g:Nat→Nat,∀x,bq (bp cf k ai.l0) ((ds (l.drop a)).length+1) (lu l a 0 x)=some (.exit 0,mB l a (g x)):=by
 have hd:=kf (l.drop a);rw[List.length_drop] at hd;have e4:IntKind.i64.wrap ((a:Int)+4)=(a:Int)+4:=wrap_i64 (by omega) (by omega);refine gP (f:=bp cf k ai.l0) (ds (l.drop a)).length (lu l a) 0 (mB l a) (fun j hj x=> ?_) (fun x=> ?_)
 ·obtain⟨h1,h2,h3⟩:=pG hj;rw[List.length_drop] at h1;have h1':a+j<l.length:=by omega
  have hg:(l.drop a)[j]'(by rw[List.length_drop];omega)=l[a+j]:=by rw[List.getElem_drop]
  have hv:val ((ds (l.drop a)).take j) 0<10^5:=l3 _ 5 (by rw[dA];omega) (by
   rw[ao];intro b hb;have:=m0 (l.drop a);rw[ao] at this;exact this b (List.mem_of_mem_take hb))
  obtain⟨b,hb⟩:∃b,b=l[a+j]:=⟨_,rfl⟩
  have hget:∀hh:a+j<l.length,l[a+j]'hh=b:=fun _=>hb.symm
  have hdig:aO b=true:=by rw[hb,←hg];exact h3
  obtain⟨d1,d2⟩:=(du b).1 hdig;have ht:(ds (l.drop a)).take (j+1)=(ds (l.drop a)).take j++[b]:=by
   rw[List.take_succ_eq_append_getElem hj,h2,hg,←hb]
  obtain⟨z,hz⟩:∃z:Nat,z=b.toNat:=⟨_,rfl⟩
  have hz2:(b.toNat:Int)=z:=by omega
  rw[hz2] at d1 d2;have e6:((val ((ds (l.drop a)).take (j+1)) 0:Nat):Int)=10*(val ((ds (l.drop a)).take j) 0:Int)+(z:Int)-48:=by
   rw[ht,gm];omega
  have e7:((a+(j+1):Nat):Int)=((a+j:Nat):Int)+1:=by omega
  simp only[lu,Prod.exists,e6,e7];have hj4:j<4:=by omega
  generalize val ((ds (l.drop a)).take j) 0=n at*;have k4:((a+j:Nat):Int)<(a:Int)+4:=by omega
  have k1:((a+j:Nat):Int)<l.length:=by omega
  generalize hm:a+j=m at*;have e1:=eS (i:=m) (by omega);have e2:IntKind.i64.wrap (10*(n:Int))=10*(n:Int):=wrap_i64 (by omega) (by omega);have e3:IntKind.i64.wrap (z:Int)=(z:Int):=wrap_i64 (by omega) (by omega);have e5:IntKind.i64.wrap (10*(n:Int)+(z:Int))=10*(n:Int)+(z:Int):=wrap_i64 (by omega) (by omega);have e8:IntKind.i64.wrap (10*(n:Int)+(z:Int)-48)=10*(n:Int)+(z:Int)-48:=wrap_i64 (by omega) (by omega);simp (maxSteps:=9^9) [ai.l0,aJ,ab,setAt,aA,h1',k1,k4,hget,hz2,d1,d2,e1,e2,e3,e4,e5,e8]
 ·simp only[lu,mB,List.take_length];have hst:=ou (l.drop a);generalize val (ds (l.drop a)) 0=n at*;generalize hj:(ds (l.drop a)).length=j at*;by_cases c1:a+j<l.length
  ·have k1:((a+j:Nat):Int)<l.length:=by omega
   by_cases c4:j<4
   ·have hd:=hst c4 (by rw[List.length_drop];omega);rw[List.getElem_drop] at hd;obtain⟨b,hb⟩:∃b,b=l[a+j]:=⟨_,rfl⟩
    have hget:∀hh:a+j<l.length,l[a+j]'hh=b:=fun _=>hb.symm
    rw[←hb] at hd;generalize hm:a+j=m at*;by_cases q:(48:Int)≤b.toNat
    ·have q2:¬(b.toNat:Int)≤57:=fun z=>by
      have:=(du b).2 ⟨q,z⟩;rw[this] at hd;cases hd
     simp (maxSteps:=9^9) [ai.l0,aJ,ab,setAt,aA,c1,k1,hget,q,q2,e4]
    ·simp (maxSteps:=9^9) [ai.l0,aJ,ab,setAt,aA,c1,k1,hget,q,e4]
   ·have j4:j=4:=by omega
    have k4:¬((a+j:Nat):Int)<(a:Int)+4:=by omega
    obtain⟨b,hb⟩:∃b,b=l[a+j]:=⟨_,rfl⟩
    have hget:∀hh:a+j<l.length,l[a+j]'hh=b:=fun _=>hb.symm
    generalize hm:a+j=m at*;by_cases q:(48:Int)≤b.toNat
    ·by_cases q2:(b.toNat:Int)≤57
     ·simp (maxSteps:=9^9) [ai.l0,aJ,ab,setAt,aA,c1,k1,hget,q,q2,e4,k4]
     ·simp (maxSteps:=9^9) [ai.l0,aJ,ab,setAt,aA,c1,k1,hget,q,q2,e4,k4]
    ·simp (maxSteps:=9^9) [ai.l0,aJ,ab,setAt,aA,c1,k1,hget,q,e4,k4]
  ·have k1:¬((a+j:Nat):Int)<l.length:=by omega
   generalize hm:a+j=m at*;simp (maxSteps:=9^9) [ai.l0,aJ,ab,setAt,aA,k1]
theorem ai.db(h:ai.k M)(l:List UInt8)(hl:l.length≤1048576)(a:Nat)(ha:a≤l.length):
  (∀n r,cG (l.drop a)=some (n,r)→∃k:Nat,run M 326 [.c (S l),.c (I a)] []=some (.fj [.c (I n),.c (I k),.c (.bool true)],[])∧a<k∧k≤l.length∧r=l.drop k)∧
  (cG (l.drop a)=none→∃x y:Int,run M 326 [.c (S l),.c (I a)] []=some (.fj [.c (I x),.c (I y),.c (.bool false)],[])):=by
 obtain⟨g,hr⟩:=mA (run M) 6 l hl a ha;have hd:=kf (l.drop a);rw[List.length_drop] at hd;have e1:=eS (i:=a) (by omega);have hloop:∀x,bq (bp (run M) 6 ai.l0) 6 (lu l a 0 x)=some (.exit 0,mB l a (g x)):=fun x=>my (hr x) (by omega)
 have e0:((0:Nat):Int)=0:=rfl;simp only[lu,mB,List.take_zero,val,Nat.add_zero,e0] at hloop;have eds:ds (l.drop a)=((l.drop a).takeWhile aO).take 4:=rfl;unfold cG;rw[←eds];have rest:(¬∃h:a<l.length,l[a]=42)→
   run M 326 [.c (S l),.c (I a)] []=some (.fj [.c (I (val (ds (l.drop a)) 0)),.c (I ((a+(ds (l.drop a)).length:Nat):Int)),.c (.bool (decide (ds (l.drop a)≠[]∧0<val (ds (l.drop a)) 0)))],[]):=by
  intro hn;refine bE (b:=ai.m) h ⟨6, ?_⟩;have hne:decide (ds (l.drop a)≠[]∧0<val (ds (l.drop a)) 0)=(decide ((a:Int)<((a+(ds (l.drop a)).length:Nat):Int))&&decide ((0:Int)<(val (ds (l.drop a)) 0:Nat))):=by
   cases hq:ds (l.drop a) with
   |nil=>simp
   |cons x y=>
    rw[decide_eq_true (p:=(a:Int)<_) (by simp only[al];omega),Bool.true_and];by_cases z:0<val (x::y) 0
    ·rw[decide_eq_true ⟨by simp,z⟩,decide_eq_true (by omega)]
    ·rw[decide_eq_false (fun w=>z w.2),decide_eq_false (by omega)]
  rw[hne];generalize val (ds (l.drop a)) 0=n at*;generalize a+(ds (l.drop a)).length=m at*;by_cases c1:a<l.length
  ·have c2:(a:Int)<l.length:=by omega
   have c3:¬(l[a].toNat:Int)=42:=fun z=>hn ⟨c1,(jb _ 42).1 z⟩
   obtain⟨b,hb⟩:∃b,b=l[a]:=⟨_,rfl⟩
   have hget:∀hh:a<l.length,l[a]'hh=b:=fun _=>hb.symm
   rw[←hb] at c3;by_cases c4:(a:Int)<(m:Int)
   ·simp (maxSteps:=9^9) [eR,ai.m,ai.b,aJ,ab,setAt,aA,hloop,c1,c2,hget,c3,c4]
   ·simp (maxSteps:=9^9) [eR,ai.m,ai.b,aJ,ab,setAt,aA,hloop,c1,c2,hget,c3,c4]
  ·have c2:¬(a:Int)<l.length:=by omega
   by_cases c4:(a:Int)<(m:Int)
   ·simp (maxSteps:=9^9) [eR,ai.m,ai.b,aJ,ab,setAt,aA,hloop,c2,c4]
   ·simp (maxSteps:=9^9) [eR,ai.m,ai.b,aJ,ab,setAt,aA,hloop,c2,c4]
 by_cases hs:∃h:a<l.length,l[a]=42
 ·obtain⟨c1,c3⟩:=hs;have hh:(l.drop a).head? =some 42:=by rw[aW c1,c3];rfl
  rw[if_pos hh];refine⟨fun n r e=> ?_,fun e=>by cases e⟩;cases e;refine⟨a+1,bE (b:=ai.m) h ⟨0, ?_⟩,by omega,by omega,by rw[List.drop_drop]⟩;have c2:(a:Int)<l.length:=by omega
  have hget:∀hh:a<l.length,l[a]'hh=42:=fun _=>c3
  have e7:((a+1:Nat):Int)=(a:Int)+1:=by omega
  rw[e7];simp (maxSteps:=9^9) [eR,ai.m,ai.b,aJ,ab,setAt,aA,c1,c2,hget,e1]
 ·have hh:¬(l.drop a).head? =some 42:=by
   by_cases c1:a<l.length
   ·rw[aW c1];intro e;simp only[List.head?_cons,af] at e;exact hs ⟨c1,e⟩
   ·rw[fW (by omega)];simp
  have h1:=rest hs;rw[if_neg hh];by_cases c:ds (l.drop a)≠[]∧0<val (ds (l.drop a)) 0
  ·rw[if_pos c];rw[decide_eq_true c] at h1;refine⟨fun n r e=> ?_,fun e=>by cases e⟩;cases e;have:0<(ds (l.drop a)).length:=by cases hq:ds (l.drop a) with|nil=>exact(c.1 hq).elim|cons=>simp
   exact⟨_,h1,by omega,by omega,by rw[List.drop_drop]⟩
  ·rw[if_neg c];rw[decide_eq_false c] at h1;exact⟨fun n r e=>(by cases e),fun _=>⟨_,_,h1⟩⟩
structure pT where
 d:Nat
 a:Nat
 acc:List Range
 w:Nat
 v:Nat
 n:Nat
def lG(s:pT):List (Nat×Ob):=[(14,⟨s.w,2,true,false,[]⟩),(15,⟨s.v,2,true,false,s.acc.map bl⟩)]
def gg(l:List UInt8)(s:pT):St:={t:=[(0,.c (S l)),(4,.c (.row 14 s.w 0 0)),(5,.c (.row 15 s.v 0 s.acc.length)),(6,.c (I s.a))],o:=lG s,n:=s.n}
def ik(acc:List Range)(w v n:Nat):St:={t:=[(2,.c (.row 15 v 0 acc.length)),(3,.c (.bool true))],o:=[(14,⟨w,2,true,false,[]⟩),(15,⟨v,2,true,false,acc.map bl⟩)],n:=n}
def iT(w v n:Nat)(ra:List (List T)):St:={t:=[(2,.c (.row 14 w 0 0)),(3,.c (.bool false))],o:=[(14,⟨w,2,true,false,[]⟩),(15,⟨v,2,true,false,ra⟩)],n:=n}
structure pU (l:List UInt8) (q:List Range×Bool) (s:pT):Prop where
 a:s.a≤l.length
 d:l.length-s.a<s.d
 acc:s.acc.length≤8
 q:fM s.d (l.drop s.a) s.acc=q
def p_(q:List Range×Bool)(r:Out×St):Prop:=(∃acc w v n,r=(.ret,ik acc w v n)∧q=(acc,true)∧acc.length≤8)∨(∃w v n ra,r=(.ret,iT w v n ra)∧q=([],false))
theorem ox(kn:ai.k M)(k:Nat)(l:List UInt8)(hl:l.length≤1048576)(q:List Range×Bool)(s:pT)(hs:pU l q s):
  (∃s',bp (run M) k aj.l0 (gg l s)=some (.normal,gg l s')∧pU l q s'∧s'.d<s.d)∨
   (∃r,bp (run M) k aj.l0 (gg l s)=some r∧r.1≠.normal∧p_ q r):=by
 obtain⟨d,a,acc,w,v,n⟩:=s;obtain⟨h1,h2,h3,hq⟩:=hs;simp only at h1 h2 h3 hq;cases d with
 |zero=>omega
 |succ d=>
 rw[fM] at hq;obtain⟨n1,n2⟩:=ai.db kn l hl a h1;have er:(acc.map bl).length=acc.length:=by simp
 have et:(acc.map bl).take acc.length=acc.map bl:=ab (by omega);have e5:acc.length+1≤4294967296:=by omega
 have no:q=([],false)→(∃v' n' ra,bp (run M) k aj.l0 (gg l ⟨d+1,a,acc,w,v,n⟩)=some (.ret,iT w v' n' ra))→(∃r,bp (run M) k aj.l0 (gg l ⟨d+1,a,acc,w,v,n⟩)=some r∧r.1≠.normal∧p_ q r):=by
  rintro e ⟨v',n',ra,hh⟩;exact⟨_,hh,by simp,.inr ⟨_,_,_,_,rfl,e⟩⟩
 unfold cv at hq;cases hn:cG (l.drop a) with
 |none=>
  right;rw[hn] at hq;obtain⟨x,y,g1⟩:=n2 hn;refine no hq.symm ?_;simp only[gg,lG,iT];refine⟨v, ?_⟩;generalize acc.map bl=ra at*;simp (maxSteps:=9^9) [aj.l0,aJ,ab,setAt,aA,g1]
 |some xr=>
  obtain⟨x,r1⟩:=xr;rw[hn] at hq;obtain⟨k1,g1,j1,j2,hr1⟩:=n1 x r1 hn;subst hr1;simp only at hq;have behind:∀(y:Range) (k2:Nat),k2≤l.length→a<k2→
    (if 8<acc.length+1 then([],false) else if l.drop k2=[] then(acc++[y],true) else if(l.drop k2).head? ≠some 44 then([],false) else fM d ((l.drop k2).drop 1) (acc++[y]))=q→
    (8<acc.length+1∧q=([],false))∨(¬8<acc.length+1∧k2=l.length∧q=(acc++[y],true))∨
     (¬8<acc.length+1∧∃h:k2<l.length,(¬l[k2]=44∧q=([],false))∨(l[k2]=44∧pU l q ⟨d,k2+1,acc++[y],w,0,0⟩)):=by
   intro y k2 hk hak e;by_cases c8:8<acc.length+1
   ·rw[if_pos c8] at e;exact .inl ⟨c8,e.symm⟩
   rw[if_neg c8] at e;by_cases ck:k2=l.length
   ·rw[if_pos (by rw[ck];exact List.drop_length)] at e;exact .inr (.inl ⟨c8,ck,e.symm⟩)
   have hlt:k2<l.length:=by omega
   have hdr:=aW hlt;obtain⟨tl,htl⟩:∃tl,tl=l.drop (k2+1):=⟨_,rfl⟩
   rw[←htl] at hdr;rw[hdr,if_neg (List.cons_ne_nil _ _),List.head?_cons,List.drop_succ_cons,List.drop_zero] at e;right;right;refine⟨c8,hlt, ?_⟩;by_cases c44:l[k2]=44
   ·right;rw[if_neg (fun z=>z (by rw[c44]))] at e;exact⟨c44,by simp only;omega,by simp only;omega,by simp;omega,by simp only;rw[←htl];exact e⟩
   ·left;rw[if_pos (fun z=>c44 (Option.some.inj z))] at e;exact⟨c44,e.symm⟩
  have xk1:(k1:Int)≤l.length:=by omega
  by_cases hcol:∃h:k1<l.length,l[k1]=58
  ·obtain⟨c1,c58⟩:=hcol;have hh:(l.drop k1).head? =some 58:=by rw[aW c1,c58];rfl
   rw[if_pos hh,List.drop_drop] at hq;have c2:(k1:Int)<l.length:=by omega
   have hget:∀hh:k1<l.length,l[k1]'hh=58:=fun _=>c58
   have e1:IntKind.i64.wrap ((k1:Int)+1)=((k1+1:Nat):Int):=wrap_i64 (by omega) (by omega);obtain⟨m1,m2⟩:=ai.db kn l hl (k1+1) (by omega);cases hm:cG (l.drop (k1+1)) with
   |none=>
    right;rw[hm] at hq;obtain⟨x',y',g2⟩:=m2 hm;refine no hq.symm ?_;simp only[gg,lG,iT];refine⟨v, ?_⟩;generalize acc.map bl=ra at*;generalize hk11:k1+1=k11 at*;simp (maxSteps:=9^9) [aj.l0,aJ,ab,setAt,aA,g1,g2,c1,c2,hget,e1]
   |some yr=>
    obtain⟨y,r2⟩:=yr;rw[hm] at hq;obtain⟨k2,g2,i1,i2,hr2⟩:=m1 y r2 hm;subst hr2;simp only at hq;have hb:=behind ⟨(x:Int),(y:Int)⟩ k2 i2 (by omega) hq;generalize hk11:k1+1=k11 at*;rcases hb with⟨b1,b2⟩|⟨b1,b2,b3⟩|⟨b1,b2,⟨b3,b4⟩|⟨b3,b4⟩⟩
    ·right;have b5:(8:Int)<acc.length+1:=by omega
     refine no b2 ?_;simp only[gg,lG,iT]
     try simp only[bl]
     generalize acc.map bl=ra at*;simp (maxSteps:=9^9) [aj.l0,aJ,ab,setAt,aA,g1,g2,c1,c2,hget,e1,er,et,e5,b5]
    ·right;have b5:¬(8:Int)<acc.length+1:=by omega
     have b6:(k2:Int)=l.length:=by omega
     suffices hh:∃v' n',bp (run M) k aj.l0 (gg l ⟨d+1,a,acc,w,v,n⟩)=some (.ret,ik (acc++[⟨(x:Int),(y:Int)⟩]) w v' n') by
      obtain⟨v',n',hh⟩:=hh;exact⟨_,hh,by simp,.inl ⟨_,_,_,_,rfl,b3,by simp;omega⟩⟩
     simp only[gg,lG,ik,bN,aI,bC,bt,al,a6]
     try simp only[bl]
     generalize acc.map bl=ra at*;simp (maxSteps:=9^9) [aj.l0,aJ,ab,setAt,aA,g1,g2,c1,c2,hget,e1,er,et,e5,b5,b6]
    ·right;have b5:¬(8:Int)<acc.length+1:=by omega
     have b6:¬(k2:Int)=l.length:=by omega
     obtain⟨z,hz⟩:∃z,z=l[k2]:=⟨_,rfl⟩
     have hget2:∀hh:k2<l.length,l[k2]'hh=z:=fun _=>hz.symm
     rw[←hz] at b3;have b7:¬(z.toNat:Int)=44:=fun h=>b3 ((jb _ 44).1 h)
     refine no b4 ?_;simp only[gg,lG,iT]
     try simp only[bl]
     generalize acc.map bl=ra at*;simp (maxSteps:=9^9) [aj.l0,aJ,ab,setAt,aA,g1,g2,c1,c2,hget,hget2,b2,e1,er,et,e5,b5,b6,b7]
    ·left;have b5:¬(8:Int)<acc.length+1:=by omega
     have b6:¬(k2:Int)=l.length:=by omega
     have hget2:∀hh:k2<l.length,l[k2]'hh=44:=fun _=>b3
     have e3:=eS (i:=k2) (by omega);suffices hh:∃v' n',bp (run M) k aj.l0 (gg l ⟨d+1,a,acc,w,v,n⟩)=some (.normal,gg l ⟨d,k2+1,acc++[⟨(x:Int),(y:Int)⟩],w,v',n'⟩) by
      obtain⟨v',n',hh⟩:=hh;exact⟨_,hh,⟨b4.a,b4.d,b4.acc,b4.q⟩,Nat.lt_succ_self _⟩
     simp only[gg,lG,bN,aI,bC,bt,al,a6]
     try simp only[bl]
     generalize acc.map bl=ra at*;simp (maxSteps:=9^9) [aj.l0,aJ,ab,setAt,aA,g1,g2,c1,c2,hget,hget2,b2,e1,e3,er,et,e5,b5,b6]
  ·have hh:¬(l.drop k1).head? =some 58:=by
    by_cases c1:k1<l.length
    ·rw[aW c1];intro e;simp only[List.head?_cons,af] at e;exact hcol ⟨c1,e⟩
    ·rw[fW (by omega)];simp
   rw[if_neg hh] at hq;simp only at hq;have hb:=behind ⟨(x:Int),(x:Int)⟩ k1 j2 j1 hq;rcases hb with⟨b1,b2⟩|⟨b1,b2,b3⟩|⟨b1,b2,⟨b3,b4⟩|⟨b3,b4⟩⟩
   ·right;have b5:(8:Int)<acc.length+1:=by omega
    refine no b2 ?_;simp only[gg,lG,iT]
    try simp only[bl]
    generalize acc.map bl=ra at*;by_cases c1:k1<l.length
    ·have c2:(k1:Int)<l.length:=by omega
     obtain⟨z,hz⟩:∃z,z=l[k1]:=⟨_,rfl⟩
     have hget:∀hh:k1<l.length,l[k1]'hh=z:=fun _=>hz.symm
     have c58:¬(z.toNat:Int)=58:=fun h=>hcol ⟨c1,by rw[←hz];exact(jb _ 58).1 h⟩
     simp (maxSteps:=9^9) [aj.l0,aJ,ab,setAt,aA,g1,c1,c2,hget,c58,er,et,e5,b5]
    ·have c2:¬(k1:Int)<l.length:=by omega
     simp (maxSteps:=9^9) [aj.l0,aJ,ab,setAt,aA,g1,c2,er,et,e5,b5]
   ·right;have b5:¬(8:Int)<acc.length+1:=by omega
    have b6:(k1:Int)=l.length:=by omega
    have c2:¬(k1:Int)<l.length:=by omega
    suffices hh:∃v' n',bp (run M) k aj.l0 (gg l ⟨d+1,a,acc,w,v,n⟩)=some (.ret,ik (acc++[⟨(x:Int),(x:Int)⟩]) w v' n') by
     obtain⟨v',n',hh⟩:=hh;exact⟨_,hh,by simp,.inl ⟨_,_,_,_,rfl,b3,by simp;omega⟩⟩
    simp only[gg,lG,ik,bN,aI,bC,bt,al,a6]
    try simp only[bl]
    generalize acc.map bl=ra at*;subst b2;have c3:¬(l.length:Int)<l.length:=by omega
    simp (maxSteps:=9^9) [aj.l0,aJ,ab,setAt,aA,g1,er,et,e5,b5]
   ·right;have b5:¬(8:Int)<acc.length+1:=by omega
    have b6:¬(k1:Int)=l.length:=by omega
    have c2:(k1:Int)<l.length:=by omega
    obtain⟨z,hz⟩:∃z,z=l[k1]:=⟨_,rfl⟩
    have hget:∀hh:k1<l.length,l[k1]'hh=z:=fun _=>hz.symm
    have c58:¬(z.toNat:Int)=58:=fun h=>hcol ⟨b2,by rw[←hz];exact(jb _ 58).1 h⟩
    rw[←hz] at b3;have b7:¬(z.toNat:Int)=44:=fun h=>b3 ((jb _ 44).1 h)
    refine no b4 ?_;simp only[gg,lG,iT]
    try simp only[bl]
    generalize acc.map bl=ra at*;simp (maxSteps:=9^9) [aj.l0,aJ,ab,setAt,aA,g1,b2,c2,hget,c58,er,et,e5,b5,b6,b7]
   ·left;have b5:¬(8:Int)<acc.length+1:=by omega
    have b6:¬(k1:Int)=l.length:=by omega
    have c2:(k1:Int)<l.length:=by omega
    have hget:∀hh:k1<l.length,l[k1]'hh=44:=fun _=>b3
    have e3:=eS (i:=k1) (by omega);suffices hh:∃v' n',bp (run M) k aj.l0 (gg l ⟨d+1,a,acc,w,v,n⟩)=some (.normal,gg l ⟨d,k1+1,acc++[⟨(x:Int),(x:Int)⟩],w,v',n'⟩) by
     obtain⟨v',n',hh⟩:=hh;exact⟨_,hh,⟨b4.a,b4.d,b4.acc,b4.q⟩,Nat.lt_succ_self _⟩
    simp only[gg,lG,bN,aI,bC,bt,al,a6]
    try simp only[bl]
    generalize acc.map bl=ra at*;simp (maxSteps:=9^9) [aj.l0,aJ,ab,setAt,aA,g1,b2,c2,hget,e3,er,et,e5,b5,b6]
theorem aj.db(h:aj.k M)(l:List UInt8)(hl:l.length≤1048576):
  run M 322 [.c (S l)] []=some (.fj [.c (.sl true 2 ((cy l).1.map bl)),.c (.bool (cy l).2)],[]):=by
 obtain⟨h0,kn⟩:=h;have hcs:fM (l.length+1) l []=cy l:=kQ _ l [] (Nat.lt_succ_self _) (by simp);obtain⟨r,hr,hp⟩:=fY (f:=bp (run M) (l.length+2) aj.l0) (gg l) (pU l (cy l)) (fun s=>s.d) (p_ (cy l))
  (fun s hs=>ox kn _ l hl _ s hs) (l.length+2) ⟨l.length+1,0,[],2000032,2000064,2000112⟩ ⟨Nat.zero_le _,by simp only;omega,by simp,by simpa using hcs⟩ (by simp only;omega)
 refine bE (b:=aj.m) h0 ⟨l.length+2, ?_⟩;have e0:((0:Nat):Int)=0:=rfl;rcases hp with⟨acc,w,v,n,rfl,hq,h8⟩|⟨w,v,n,ra,rfl,hq⟩
 ·rw[hq];have er:(acc.map bl).length=acc.length:=by simp
  have et:(acc.map bl).take acc.length=acc.map bl:=ab (by omega);simp only[gg,lG,ik,bC,a6,e0] at hr ⊢;generalize acc.map bl=rt at*;simp (maxSteps:=9^9) [eR,aj.m,aj.b,aJ,ab,setAt,aA,hr,er,et]
 ·rw[hq];simp only[gg,lG,iT,bC,a6,e0] at hr ⊢;simp (maxSteps:=9^9) [eR,aj.m,aj.b,aJ,ab,setAt,aA,hr]
theorem gB(k:Int):∀(n i:Nat) (hi:i<(aQ k n).length),(aQ k n)[i]=⟨k+2*i,k+2*i+1⟩
 |0,i,hi=>by simp[aQ] at hi
 |n+1,i,hi=>by
  simp only[aQ] at hi ⊢;rw[List.getElem_append];have hl:=c_ k n;split
  ·exact gB k n i _
  ·rename_i h;have:i=n:=by simp[hl] at hi h;omega
   subst this;simp[hl]
def pQ(k:Int)(m:Nat)(i:Nat)(x:Nat):St:={t:=[(0,.c (dX (aQ k m))),(1,.c (I (k+2*i))),(5,.c (I i))],o:=[],n:=x}
def p0(k:Int)(m:Nat)(x:Nat):St:={t:=[(0,.c (dX (aQ k m))),(1,.c (I (k+2*m))),(5,.c (I m)),(9,.c (.bool false))],o:=[],n:=x}
theorem ay.db(h:ay.k M)(m:Nat)(k:Int)(hk:0≤k)(hm:k+2*m≤1000000000):run M 555 [.c (dX (aQ k m)),.c (I k)] []=some (.c (I (k+2*m)),[]):=by
 have ml:=c_ k m;have rl:(rows (aQ k m)).length=m:=by simp[rows,ml]
 obtain⟨g,hr⟩:=gP (f:=bp (run M) (m+1) ay.l0) m (pQ k m) 0 (p0 k m)
  (fun i hi x=>by
   have a1:∀hh,(rows (aQ k m))[i]'hh=[I (k+2*i),I (k+2*i+1)]:=by
    intro hh;rw[kC,gB];rfl
   have e5:=eS (i:=i) (by omega);have e6:IntKind.i64.wrap (k+2*(i:Int)+1)=k+2*(i:Int)+1:=wrap_i64 (by omega) (by omega);have e7:IntKind.i64.wrap (k+2*(i:Int)+1+1)=k+2*((i:Int)+1):=by rw[wrap_i64 (by omega) (by omega)];omega
   have hi2:(i:Int)<m:=by omega
   have ez:((i+1:Nat):Int)=(i:Int)+1:=by omega
   simp only[pQ,dX,ez];generalize rows (aQ k m)=rr at*;simp (maxSteps:=9^9) [ay.l0,aJ,ab,setAt,aA,a1,e5,e6,e7,hi,hi2,rl])
  (fun x=>by
   simp only[pQ,p0,dX];generalize rows (aQ k m)=rr at*;simp (maxSteps:=9^9) [ay.l0,aJ,ab,setAt,aA,rl])
 refine bE (b:=ay.m) h ⟨m+1, ?_⟩;have e0:((0:Nat):Int)=0:=rfl;have e00:k+2*(0:Int)=k:=by omega
 simp only[pQ,p0,dX,e0,e00] at hr ⊢;generalize rows (aQ k m)=rr at*;simp (maxSteps:=9^9) [eR,ay.m,ay.b,aJ,ab,setAt,aA,hr]
theorem jh:∀(ps:List (List UInt8)) (acc:List Range),acc.length≤8→(cz ps acc).1.length≤8
 |[],acc,h=>by simpa [cz] using h
 |p::ps,acc,h=>by
  rw[cz];cases cY p with
  |none=>simp
  |some r=>
   simp only;split
   ·simp
   ·exact jh ps _ (by simp;omega)
theorem aq.db(h:aq.k M)(l:List UInt8)(hl:l.length≤maxLen):run M 554 [.c (S l)] []=some (.c (.bool true),[]):=by
 obtain⟨h0,k1,k2,k3,k4,k5⟩:=h;refine bE (b:=aq.m) h0 ⟨0, ?_⟩;by_cases c:(1048576:Int)<l.length
 ·simp (maxSteps:=9^9) [eR,aq.m,aq.b,aJ,ab,setAt,aA,c]
 have hl2:l.length≤1048576:=by omega
 have h1:=aj.db k1 l hl2;have h2:=an.db k4 l hl2;have hn:(cy l).1.length≤8:=jh _ _ (by simp);generalize cy l=q at*;obtain⟨q,ok⟩:=q;simp only at h1 h2 hn;have h3:=aB.db k2 q (by omega);have h4:=aw.db k3 q 1 (by omega) (by omega) (by omega);have h5:=ay.db k5 q.length 1 (by omega) (by omega);have e1:¬1+2*(q.length:Int)<0:=by omega
 have f1:=lf (aQ 1 q.length);have rl:(rows q).length=q.length:=dh q;have rt:(rows q).take q.length=rows q:=ab (by omega);have ml:(rows (aQ 1 q.length)).length=q.length:=by simp[rows,c_]
 have mt:(rows (aQ 1 q.length)).take q.length=rows (aQ 1 q.length):=ab (by omega);have er:q.map bl=rows q:=rfl;rw[er] at h1 h2;simp only[dX] at h3 h5;generalize rows (aQ 1 q.length)=rm at*;generalize rows q=rq at*;simp (maxSteps:=9^9) [eR,aq.m,aq.b,aJ,ab,setAt,aA,c,h1,h2,h3,h4,h5,e1,f1,rl,rt,ml,mt]
theorem aq.row(h:aq.k M){as:List V}(ha:iA [.cell .str] as):run M 554 as []=some (.c (.bool true),[]):=by
 cases ha with|cons h0 ha=>
 cases ha;cases h0 with|cell h0=>
 cases h0 with|str s hs=>
 obtain⟨p,rfl⟩:=mq s;exact aq.db h p (by simpa using hs)
end Mx
namespace Mx
open Go Go.RowKit Go.ChangeShapes
variable {P:Program} {F:Nat→FuncId}
theorem kg:∀(n:Nat) (w:World),(w.drewN n).heap=w.heap∧(w.drewN n).os=w.os∧(w.drewN n).tape=w.tape∧(w.drewN n).output=w.output:=by
 intro n w;exact⟨rfl,rfl,rfl,rfl⟩
theorem oi{f:Nat}(hf:iK P F f=true)(hne:F 999998≠0)
  (h:∀(s sep:ByteArray) (m:Int) (w:World),s.size<4294967281→w.cell? ⟨F 999999,0,none⟩=some (.int .i64 m)→Calls P (F f) #[.string s,.string sep] w fun e w'=>e= .returned (.tuple #[.string ⟨(Lib.cut s.data.toList sep.data.toList).1.toArray⟩,.string ⟨(Lib.cut s.data.toList sep.data.toList).2.1.toArray⟩,.bool (Lib.cut s.data.toList sep.data.toList).2.2])∧∃n,w'=w.drewN n):iB P F f jB:=by
 intro as lent res after hg;refine⟨hf,fun Pr E0 vals w En=> ?_⟩;unfold jB at hg;split at hg
 ·rename_i s sep;split at hg
  ·rename_i hs;cases hg;have hn:=En.n;have hv:vals= #[.string s,.string sep]:=by
    have h0:=En.args 0 _ (vals[0]'(by rw[←hn];simp)) rfl (Array.getElem?_eq_getElem _);have h1:=En.args 1 _ (vals[1]'(by rw[←hn];simp)) rfl (Array.getElem?_eq_getElem _);have g0:=eX h0 (v:= .string s) rfl;have g1:=eX h1 (v:= .string sep) rfl;apply Array.ext
    ·rw[←hn];rfl
    ·intro i hi hi'
     match i,hi' with
     |0,_=>exact g0
     |1,_=>exact g1
   subst hv;rcases En.pr.2 with e|⟨_,_,m,hm⟩
   ·exact(hne e).elim
   refine(h s sep m w hs hm).mono ?_;rintro e w' ⟨rfl,n,rfl⟩;obtain⟨d1,d2,d3,d4⟩:=kg n w;refine⟨_,E0,fun _=>none,rfl,d2,d3,d4,by rw[d1];exact Nat.le_refl _,fun b _ _=>by rw[d1],fun v l h=>h,fun q b cap sz h=>(by cases h),fun q q' b cap sz cap' sz' h=>(by cases h), ?_,fun p ob ob' l h=>(by simp[get] at h)⟩;exact⟨.str _,.str _,.bool _,trivial⟩
  ·cases hg
 ·cases hg
variable {w:World} {H:Type} {enc:TypeId×Value→H}
end Mx
namespace Mx
open Go
variable {P:Program} {F:Nat→FuncId}
theorem lA{f:Nat}{te:TypeId}(hf:iK P F f=true)(hne:F 999998≠0)
  (h:∀(s sep:ByteArray) (m:Int) (w:World),s.size<4294967281→w.cell? ⟨F 999999,0,none⟩=some (.int .i64 m)→1≤sep.size→Calls P (F f) #[.string s,.string sep] w fun e w'=>
   e= .returned (.slice (some ⟨w.heap.size,0,none⟩) (Lib.countB s sep+1) (Lib.countB s sep+1))∧w'=w.alloc (.cells ((Lib.splitB sep 0 (Lib.countB s sep) s).map Value.string).toArray te))
  (hl:∀s sep:ByteArray,1≤sep.size→(Lib.splitB sep 0 (Lib.countB s sep) s).length=Lib.countB s sep+1):iB P F f eG:=by
 intro as lent res after hg;refine⟨hf,fun Pr E0 vals w En=> ?_⟩;unfold eG at hg;split at hg
 ·rename_i s sep;split at hg
  ·rename_i hs;obtain⟨hs,h1⟩:=hs;cases hg;have hn:=En.n;have hv:vals= #[.string s,.string sep]:=by
    have h0:=En.args 0 _ (vals[0]'(by rw[←hn];simp)) rfl (Array.getElem?_eq_getElem _);have h1:=En.args 1 _ (vals[1]'(by rw[←hn];simp)) rfl (Array.getElem?_eq_getElem _);have g0:=eX h0 (v:= .string s) rfl;have g1:=eX h1 (v:= .string sep) rfl;apply Array.ext
    ·rw[←hn];rfl
    ·intro i hi hi'
     match i,hi' with
     |0,_=>exact g0
     |1,_=>exact g1
   subst hv;rcases En.pr.2 with e|⟨_,_,m,hm⟩
   ·exact(hne e).elim
   have hlen:=hl s sep h1;refine(h s sep m w hs hm h1).mono ?_;obtain⟨L,hL⟩:∃L,L=Lib.splitB sep 0 (Lib.countB s sep) s:=⟨_,rfl⟩
   rw[←hL] at hlen ⊢;rw[←hlen];rintro e w' ⟨rfl,rfl⟩;have hh:(w.alloc (.cells (L.map Value.string).toArray te)).heap=w.heap.push (.cells (L.map Value.string).toArray te):=rfl;refine⟨_,E0,fun q=>if q=0 then some (.bQ w.heap.size L.length 1) else none,rfl,rfl,rfl,rfl,by rw[hh];simp,fun b hb _=>by rw[hh,Array.getElem?_push,if_neg (by omega)],fun v l h=>h,fun q b cap sz h=> ?_,fun q q' b cap sz cap' sz' h h'=> ?_, ?_,fun p ob ob' l h=>(by simp[get] at h)⟩
   ·split at h
    ·cases h;exact⟨.inl (Nat.le_refl _),by rw[hh];simp⟩
    ·cases h
   ·split at h
    ·split at h'
     ·omega
     ·cases h'
    ·cases h
   ·have key:eP (rx F Pr E0 [] E0 (fun q=>if q=0 then some (.bQ w.heap.size L.length 1) else none) (w.alloc (.cells (L.map Value.string).toArray te))) (fun q=>if q=0 then some (.bQ w.heap.size L.length 1) else none) [] 0 (.sl true 1 (L.map fun x=>[T.str x])) (mz (.bQ w.heap.size L.length 1) (L.map fun x=>[T.str x]).length):=by
     refine .own 1 _ (.bQ w.heap.size L.length 1) (by simp) ⟨rfl,by simp,fun i r h=> ?_,fun _ i j r t h k=> ?_,(L.map Value.string).toArray,te,(0,0), ?_,by simp,fun o _ c=>by omega,fun i j r t h k=> ?_⟩
     ·simp only[aZ,aa] at h;obtain⟨x,_,rfl⟩:=h;rfl
     ·simp only[aZ,aa] at h;obtain⟨x,_,rfl⟩:=h
      match j,k with
      |0,k=>cases k;exact .str x
     ·show (w.heap.push _)[w.heap.size]? =_;exact Array.getElem?_push_size
     ·simp only[aZ,aa] at h;obtain⟨x,hx,rfl⟩:=h
      match j,k with
      |0,k=>
       cases k;exact⟨.string x,by simp[hx],.str x⟩
    have hsz:(L.map fun x=>[T.str x]).length=L.length:=by simp
    rw[hsz] at key;exact key
  ·cases hg
 ·cases hg
end Mx
namespace Mx
open Go Go.RowKit Go.ChangeShapes
variable {P:Program} {F:Nat→FuncId} {w:World} {H:Type} {enc:TypeId×Value→H}
theorem e_{a:Assume}{C:Checked}{os:Os}{f:FuncId}{fn:Func}{s:ChangeSpec}{conds:List PathCond}{apart fresh handsOn again:Bool}{X:World→Array Value→Prop}
  (own:ownKnob C.prog.godebug=none) (started:os.Started) (noInit:C.prog.inits.idxOf? f=none) (hfn:C.prog.funcs[f]? =some fn)
  (witness:∃(w:World) (tape:Tape) (i:Input),w.os=os∧(w.forCall tape i).Shaped C.prog∧i.vars=[]∧Input.okWide C.prog (w.forCall tape i) .any w.heap.size f i∧
   ((s.pre enc C.prog fn conds apart (w.forCall tape i).memory i.args∧X (w.forCall tape i).memory i.args)∧sizedMet enc C.prog fn (OpenSpec.ofChange s) apart (w.forCall tape i).memory i.args)∧a.holds C.prog (lone (Frame.enter C.prog f i.args .normal) [] (w.forCall tape i)))
  (contract:∀(W:World) (base:Nat) (args:Array Value) (ds gs:List (DataW H)) (before:List MemPlace),
   (∀(j:Nat) t v,fn.params[j]? =some t→args[j]? =some v→Value.okWide C.prog W .any base t v)→
   DataW.Whole enc C.prog fn.params.toList s.vars apart W args.toList ds gs before→
   conds.all (PathCond.test C.prog ⟨fn.params.toList,ds,s.plain.varTypes C.prog,gs⟩)=true→
   (DataW.weightsEach C.prog (fn.params.toList++s.plain.varTypes C.prog) (ds++gs)).all (·≤reachBytes)=true→
   W.ShapedOpen C.prog→
   a.holds C.prog (lone (Frame.enter C.prog f args .normal) [] W)→
   Calls C.prog f args W fun e W'=>∃v,e= .returned v∧s.post enc C.prog fn apart fresh handsOn again W args v W'):
  ReturnsInHanded a C os f .any (fun w args=>(s.pre enc C.prog fn conds apart w args∧X w args)∧sizedMet enc C.prog fn (OpenSpec.ofChange s) apart w args) (s.post enc C.prog fn apart fresh handsOn again):=by
 refine returnsInHanded_of_calls own started noInit witness ?_;intro w tape i _ hsh _ hok hpre hholds;obtain⟨_,_,_,fn',hfn',_,_,_,_,hval⟩:=hok;have e:fn'=fn:=Option.some.inj (hfn'.symm.trans hfn);subst e;obtain⟨⟨⟨ds,gs,before,hw,hc⟩,hx⟩,hz⟩:=hpre;have hw':=DataW.Whole.of_heap (w':=w.forCall tape i) (by rfl) hw;refine(contract (w.forCall tape i) w.heap.size i.args ds gs before hval hw' hc (hz.weights hw) hsh hholds).mono fun e W' ⟨v,he,hp⟩=> ?_
 subst he;exact ChangeSpec.post_blind hp
theorem lv{C:Checked}{M:Nat→Option Body}{os:Os}{fn:Func}{s:ChangeSpec}{conds:List PathCond}{rt:TypeId}{X:World→Array Value→Prop}(hM:eo C.prog F M)(law f:Nat)(ks:List Ak)(own:ownKnob C.prog.godebug=none)(started:os.Started)
  (noInit:C.prog.inits.idxOf? (F law)=none) (hfn:C.prog.funcs[F law]? =some fn)
  (witness:∃(w:World) (tape:Tape) (i:Input),w.os=os∧(w.forCall tape i).Shaped C.prog∧i.vars=[]∧Input.okWide C.prog (w.forCall tape i) .any w.heap.size (F law) i∧
   ((s.pre enc C.prog fn conds false (w.forCall tape i).memory i.args∧X (w.forCall tape i).memory i.args)∧sizedMet enc C.prog fn (OpenSpec.ofChange s) false (w.forCall tape i).memory i.args)∧({}:Assume).holds C.prog (lone (Frame.enter C.prog (F law) i.args .normal) [] (w.forCall tape i)))
  (hl:laidOutB C.prog=true) (hargs:ft C.prog f ks fn.params.toList=true) (hres:fn.resultTypes= #[rt]) (hrt:C.prog.underlying rt=some .bool) (hvars:s.vars=[])
  (hspec:∀ds:List (DataW H),ds.length=ks.length→s.fn H (ds++[])={results:=[.lit (.bool true)],args:=ds})
  (hrun:∀as,iA ks as→run M law as []=some (.c (.bool true),[])) (hG:∀W:World,W.ShapedOpen C.prog→∃m,W.cell? ⟨F 999999,0,none⟩=some (.int .i64 m)):
  ReturnsInHanded {} C os (F law) .any (fun w args=>(s.pre enc C.prog fn conds false w args∧X w args)∧sizedMet enc C.prog fn (OpenSpec.ofChange s) false w args) (s.post enc C.prog fn false true false false):=by
 refine e_ (C:=C) own started noInit hfn witness ?_;intro W base args ds gs before hval hW _ _ hsh _;have hW':=hW;obtain⟨p,q,hA,hV,rfl,_,_⟩:=hW;have hlt:∀x∈p,x.block<W.heap.size:=fun x hx=>hW'.lt x (List.mem_append_left _ hx)
 rw[hvars] at hV;obtain⟨rfl,rfl⟩:=trodVars_none hV;obtain⟨as,h1,h2,h3,h4⟩:=km (F:=F) ks _ _ ds p hargs hA (fun j t v k1 k2=>hval j t v (by simpa using k1) (by simpa using k2));obtain⟨m,hm⟩:=hG W hsh;have hlow:F 999999<W.heap.size:=by
  by_cases c:F 999999<W.heap.size
  ·exact c
  ·have:W.heap[F 999999]? =none:=by simp[Array.getElem?_eq_none_iff];exact Nat.le_of_not_lt c
   simp only[World.cell?,this] at hm;cases hm
 refine(lg hM (f:=law) (b:=true) (hrun as h1) (.inr ⟨hlow,fun h=>h,m,hm⟩) (vals:=args) (w:=W) (by simpa using h2) (fun i v x k1 k2=>h4 i v x k1 (by simpa using k2))).mono fun e W' ⟨he,bel⟩=> ?_
 subst he;have hb:=jR hl bel ks _ _ ds p hargs hA hlt;refine⟨_,rfl,ds,[],p++[],[],p,[],hW', ?_, ?_, ?_,bel.frame _,fun h=>by cases h⟩
 ·rw[hspec ds h3,hres];exact trodAll_mk1 (shut_bool hrt _)
 ·rw[hspec ds h3];exact hb
 ·rw[hspec ds h3,hvars];rfl
end Mx
