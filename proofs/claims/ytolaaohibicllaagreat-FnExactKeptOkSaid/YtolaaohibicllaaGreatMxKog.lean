/-
  What more of the functions compute, each by a small evaluation; no condition beyond what each says.
-/
import Derived.Test.YtolaaohibicllaaGreatMxKof
set_option maxHeartbeats 16000000
set_option linter.unusedSimpArgs false
set_option linter.unusedVariables false
namespace Mx
open Go
attribute [-simp] cz step mL lL oY pv gh
variable {M:Nat→Option Body}
def B5(g:Int)(b:bq):Bool:=decide (b.gid=g)||oI b g
def KM(s:a7)(g:Int)(i:Nat)(x:Nat):St:={t:=[(1,.c (I g)),(2,.c (.ptr 2 2000000 0 0)),(8,.c (boxes s.boxes)),(9,.c (I s.boxes.length)),(10,.c (I i))],o:=[(2,⟨2000000,4,true,true,[aq s]⟩)],n:=x}
def MR(s:a7)(g:Int)(x:Nat):St:={t:=[(1,.c (I g)),(2,.c (.ptr 2 2000000 0 0)),(8,.c (boxes s.boxes)),(9,.c (I s.boxes.length)),(10,.c (I s.boxes.length)),(11,.c (.bool false))],o:=[(2,⟨2000000,4,true,true,[aq s]⟩)],n:=x}
theorem A5(l:List bq)(g:Int):(mI l g).isSome=l.any fun b=>decide (b.gid=g):=by
 unfold mI;rw[tn]
theorem fy.ak(h:fy.k M)(s:a7)(g:Int)(hs:gr s):run M 413 [.a (aq s),.c (I g)] []=some (.c (.bool (qe s g)),[]):=by
 obtain⟨h0,ka,ki⟩:=h;have hbl:=hs.b;have hgl:=hs.g;have h2:=aI.ak ki s.gone g (by omega);refine au (b:=fy.m) h0 ⟨s.boxes.length+1, ?_⟩;have er:(s.boxes.map af).length=s.boxes.length:=by simp
 obtain⟨g',hr⟩:=iz (f:=cz (run M) (s.boxes.length+1) fy.l0) s.boxes.length (tJ (B5 g) s.boxes) (KM s g) 4 (.bool true) 0 (MR s g)
  (fun i hi x c=>by
   rw[jY _ _ _ hi] at c;have hb:=hs.i _ (ax hi);have h3:=cy.ak ka s.boxes[i] g hb.m;have h4:=aI.ak ki s.boxes[i].gone g (by have:=hb.g;omega);have e5:=cA (i:=i) (by omega);have a1:∀hh,(s.boxes.map af)[i]'hh=af s.boxes[i]:=by intro hh;simp
   unfold B5 oI at c;simp only[fT,decide_eq_false_iff_not] at c;obtain⟨c0,c1,c2⟩:=c;have c2':decide (g∈s.boxes[i].gone)=false:=decide_eq_false c2;rw[c2'] at h4;have c3:¬(0:Int)≤dA (fX s.boxes[i].ae g):=by
    have:=lD (fX s.boxes[i].ae g);rw[c1] at this;simpa using this
   simp only[KM,aq,boxes,ints];simp only[af,ae,ints] at h3 h4 a1;generalize dA (fX s.boxes[i].ae g)=z at*;generalize s.boxes.map af=rb at*;generalize s.boxes[i].ae.map ah=rm at*;generalize aA s.boxes[i].gone=rg at*;simp (maxSteps:=9^9) [fy.l0,ab,setAt,hi,c0,h3,h4,c3,e5,er,a1])
  (fun i hi x c=>by
   rw[jY _ _ _ hi] at c;have hb:=hs.i _ (ax hi);have h3:=cy.ak ka s.boxes[i] g hb.m;have h4:=aI.ak ki s.boxes[i].gone g (by have:=hb.g;omega);have a1:∀hh,(s.boxes.map af)[i]'hh=af s.boxes[i]:=by intro hh;simp
   unfold B5 oI at c;have c3:=lD (fX s.boxes[i].ae g);simp only[KM,aq,boxes,ints];simp only[af,ae,ints] at h3 h4 a1;generalize dA (fX s.boxes[i].ae g)=z at*;generalize (fX s.boxes[i].ae g).isSome=w at*;generalize decide (g∈s.boxes[i].gone)=w2 at*;generalize s.boxes.map af=rb at*;generalize s.boxes[i].ae.map ah=rm at*;generalize aA s.boxes[i].gone=rg at*;by_cases c0:s.boxes[i].gid=g
   ·simp (maxSteps:=9^9) [fy.l0,ab,setAt,hi,c0,er,a1]
   rw[decide_eq_false c0] at c;cases w
   ·simp only[decide_eq_false_iff_not] at c3;simp only[Bool.false_or] at c;subst c;simp (maxSteps:=9^9) [fy.l0,ab,setAt,hi,c0,h3,h4,c3,er,a1]
   ·simp only[decide_eq_true_eq] at c3;simp (maxSteps:=9^9) [fy.l0,ab,setAt,hi,c0,h3,c3,er,a1])
  (fun x=>by
   simp only[KM,MR,aq,boxes,ints];generalize s.boxes.map af=rb at*;simp (maxSteps:=9^9) [fy.l0])
 have hany:qe s g=((dV (tJ (B5 g) s.boxes) s.boxes.length).isSome||decide (g∈s.gone)):=by
  unfold qe;rw[A5,←tn];have:s.boxes.any (B5 g)=((s.boxes.any fun b=>decide (b.gid=g))||s.boxes.any fun b=>oI b g):=by
   induction s.boxes with
   |nil=>rfl
   |cons x l ih=>
    simp only[List.any_cons,ih,B5];cases decide (x.gid=g)<;>cases oI x g<;>simp
  rw[this];generalize (s.boxes.any fun b=>decide (b.gid=g))=p;generalize (s.boxes.any fun b=>oI b g)=q;cases p<;>cases q<;>cases decide (g∈s.gone)<;>rfl
 rw[hany];generalize decide (g∈s.gone)=w2 at*;have ez:((0:Nat):Int)=0:=rfl;cases hq:dV (tJ (B5 g) s.boxes) s.boxes.length with
 |none=>
  simp only[KM,MR,hq,lv,ez] at hr;simp only[aq,boxes,ints] at*;simp (maxSteps:=9^9) [ba,fy.m,fy.b,h2,hr]
 |some q=>
  simp only[KM,hq,lv,ez] at hr;simp only[aq,boxes,ints] at*;simp (maxSteps:=9^9) [ba,fy.m,fy.b,hr]
theorem ph(h:fY.k M)(s:a7)(i:Nat)(b:bq)(ho:gr (hO s i b))(hs:gr s):
  run M 441 [.a [I s.eJ,I (s.time+1),.sl false 7 ((s.boxes.map af).set i (af b)),ints s.gone],.a (aq s)] []=some (.lM [.a (aq (stamped s i b).1),.c (.bool (stamped s i b).2)],[]):=by
 have h1:=fY.ak h (hO s i b) s ho hs;have e:aq (hO s i b)=[I s.eJ,I (s.time+1),.sl false 7 ((s.boxes.map af).set i (af b)),ints s.gone]:=by simp only[aq,hO,boxes,iE]
 rw[e] at h1;rw[h1];unfold stamped;cases a8 (hO s i b)<;>rfl
theorem fa.ak(h:fa.k M)(s:a7)(hs:nw s)(g m f:Int)(x:List UInt8):
  run M 410 [.a (aq s),.c (I g),.c (I m),.c (I f),.c (S x)] []=some (.lM [.a (aq (nD s g m f x).1),.c (.bool (nD s g m f x).2)],[]):=by
 obtain⟨h0,ka,kb,ko,kc,kk,kn,kst⟩:=h;have ht:=hs.time;have e5:IntKind.i64.wrap (s.time+1)=s.time+1:=wrap_i64 (by omega) (by omega);have h1:=gA.ak kb s g hs.m8.b;have h2:=aK.ak ko s hs.m8;have h3:=fy.ak kk s m hs.m8;have h4:=bW.ak kc s hs.m8;have h5:=dO.ak kn s hs.time;have er:(s.boxes.map af).length=s.boxes.length:=by simp
 have eg:=aS s.gone;refine au (b:=fa.m) h0 ⟨0, ?_⟩;unfold nD;cases c1:a8 s with
 |false=>
  rw[c1] at h2;simp only[aB,false_and,if_false];simp only[aq,a_,boxes,ints] at*;generalize s.boxes.map af=rb at*;generalize aA s.gone=rs at*;simp (maxSteps:=9^9) [ba,fa.m,fa.b,ab,setAt,h1,h2,h4,er,eg]
 |true=>
  rw[c1] at h2;cases c2:qe s m with
  |true=>
   rw[c2] at h3;simp only[Bool.true_eq_false,and_false,if_false];simp only[aq,a_,boxes,ints] at*;generalize s.boxes.map af=rb at*;generalize aA s.gone=rs at*;simp (maxSteps:=9^9) [ba,fa.m,fa.b,ab,setAt,h1,h2,h3,h4,er,eg]
  |false=>
   rw[c2] at h3;rw[if_pos ⟨rfl,rfl⟩];cases c3:mI s.boxes g with
   |none=>
    rw[c3] at h1;rw[nI c3];simp only[aq,a_,boxes,ints,dA] at*;generalize s.boxes.map af=rb at*;generalize aA s.gone=rs at*;simp (maxSteps:=9^9) [ba,fa.m,fa.b,ab,setAt,h1,h2,h3,h4,er,eg]
   |some i=>
    rw[c3] at h1;obtain⟨hi,_⟩:=jT c3;rw[nH c3 hi];have hG:=(ev c1).boxes.mh _ (ax hi);have h6:=dU.ak ka s.boxes[i] hG.vz m f x (s.time+1) s.eJ;have hin:=xW hG.vz m f x (s.time+1) s.eJ;have h7:=ph kst s i (lO s.boxes[i] m f x (s.time+1) s.eJ).1 (nR hs.m8 hi hin (by have:=oo c1;have:=s4 hG m f x (s.time+1) s.eJ;omega)) hs.m8;have a1:∀hh,(s.boxes.map af)[i]'hh=af s.boxes[i]:=by intro hh;simp
    have ni:¬(i:Int)<0:=by omega
    generalize lO s.boxes[i] m f x (s.time+1) s.eJ=A at*;obtain⟨b',ok⟩:=A;generalize stamped s i b'=B at*;obtain⟨s',ok'⟩:=B;have er2:(s'.boxes.map af).length=s'.boxes.length:=by simp
    have eg2:=aS s'.gone;simp only[aq,a_,boxes,ints,dA] at h1 h2 h3 h4 h5 h7 ⊢;simp only[af,b7,ae,ints] at h6 h7 a1;generalize hrb:s.boxes.map af=rb at*;generalize hrs:aA s.gone=rs at*;generalize s.boxes[i].ae.map ah=r1 at*;generalize aA s.boxes[i].gone=r2 at*;generalize b'.ae.map ah=r3 at*;generalize aA b'.gone=r4 at*;cases ok
    ·simp only[aB,if_false];simp (maxSteps:=9^9) [ba,fa.m,fa.b,ab,setAt,hi,ni,h1,h2,h3,h4,h5,h6,er,eg,a1];exact⟨hrb.symm,hrs.symm⟩
    ·simp only[if_true];generalize s'.boxes.map af=rb' at*;generalize aA s'.gone=rs' at*;simp (maxSteps:=9^9) [ba,fa.m,fa.b,ab,setAt,hi,ni,h1,h2,h3,h4,h5,h6,h7,e5,er,eg,a1]
theorem eU.ak(h:eU.k M)(s:a7)(hs:nw s)(g m f:Int):
  run M 428 [.a (aq s),.c (I g),.c (I m),.c (I f)] []=some (.lM [.a (aq (ml s g m f).1),.c (.bool (ml s g m f).2)],[]):=by
 obtain⟨h0,ka,kb,ko,kc,kn,kst⟩:=h;have ht:=hs.time;have e5:IntKind.i64.wrap (s.time+1)=s.time+1:=wrap_i64 (by omega) (by omega);have h1:=gA.ak kb s g hs.m8.b;have h2:=aK.ak ko s hs.m8;have h4:=bW.ak kc s hs.m8;have h5:=dO.ak kn s hs.time;have er:(s.boxes.map af).length=s.boxes.length:=by simp
 have eg:=aS s.gone;refine au (b:=eU.m) h0 ⟨0, ?_⟩;unfold ml;cases c1:a8 s with
 |false=>
  rw[c1] at h2;simp only[aB,if_false];simp only[aq,a_,boxes,ints] at*;generalize s.boxes.map af=rb at*;generalize aA s.gone=rs at*;simp (maxSteps:=9^9) [ba,eU.m,eU.b,ab,setAt,h1,h2,h4,er,eg]
 |true=>
  rw[c1] at h2;rw[if_pos rfl];cases c3:mI s.boxes g with
  |none=>
   rw[c3] at h1;rw[nI c3];simp only[aq,a_,boxes,ints,dA] at*;generalize s.boxes.map af=rb at*;generalize aA s.gone=rs at*;simp (maxSteps:=9^9) [ba,eU.m,eU.b,ab,setAt,h1,h2,h4,er,eg]
  |some i=>
   rw[c3] at h1;obtain⟨hi,_⟩:=jT c3;rw[nH c3 hi];have hG:=(ev c1).boxes.mh _ (ax hi);have h6:=dF.ak ka s.boxes[i] hG.vz m f (s.time+1) s.eJ;have hin:=vE hG.vz m f (s.time+1) s.eJ;have h7:=ph kst s i (kR s.boxes[i] m f (s.time+1) s.eJ).1 (nR hs.m8 hi hin (by have:=oo c1;have:=rQ hG m f (s.time+1) s.eJ;omega)) hs.m8;have a1:∀hh,(s.boxes.map af)[i]'hh=af s.boxes[i]:=by intro hh;simp
   have ni:¬(i:Int)<0:=by omega
   generalize kR s.boxes[i] m f (s.time+1) s.eJ=A at*;obtain⟨b',ok⟩:=A;generalize stamped s i b'=B at*;obtain⟨s',ok'⟩:=B;have er2:(s'.boxes.map af).length=s'.boxes.length:=by simp
   have eg2:=aS s'.gone;simp only[aq,a_,boxes,ints,dA] at h1 h2 h4 h5 h7 ⊢;simp only[af,b7,ae,ints] at h6 h7 a1;generalize hrb:s.boxes.map af=rb at*;generalize hrs:aA s.gone=rs at*;generalize s.boxes[i].ae.map ah=r1 at*;generalize aA s.boxes[i].gone=r2 at*;generalize b'.ae.map ah=r3 at*;generalize aA b'.gone=r4 at*;cases ok
   ·simp only[aB,if_false];simp (maxSteps:=9^9) [ba,eU.m,eU.b,ab,setAt,hi,ni,h1,h2,h4,h5,h6,er,eg,a1];exact⟨hrb.symm,hrs.symm⟩
   ·simp only[if_true];generalize s'.boxes.map af=rb' at*;generalize aA s'.gone=rs' at*;simp (maxSteps:=9^9) [ba,eU.m,eU.b,ab,setAt,hi,ni,h1,h2,h4,h5,h6,h7,e5,er,eg,a1]
theorem eV.ak(h:eV.k M)(s:a7)(hs:nw s)(g m:Int):
  run M 429 [.a (aq s),.c (I g),.c (I m)] []=some (.lM [.a (aq (mo s g m).1),.c (.bool (mo s g m).2)],[]):=by
 obtain⟨h0,kt,kb,ko,kc⟩:=h;have h1:=gA.ak kb s g hs.m8.b;have h2:=aK.ak ko s hs.m8;have h4:=bW.ak kc s hs.m8;have er:(s.boxes.map af).length=s.boxes.length:=by simp
 have eg:=aS s.gone;refine au (b:=eV.m) h0 ⟨0, ?_⟩;unfold mo;cases c1:a8 s with
 |false=>
  rw[c1] at h2;simp only[aB,if_false];simp only[aq,a_,boxes,ints] at*;generalize s.boxes.map af=rb at*;generalize aA s.gone=rs at*;simp (maxSteps:=9^9) [ba,eV.m,eV.b,ab,setAt,h1,h2,h4,er,eg]
 |true=>
  rw[c1] at h2;rw[if_pos rfl];cases c3:mI s.boxes g with
  |none=>
   rw[c3] at h1;rw[nI c3];simp only[aq,a_,boxes,ints,dA] at*;generalize s.boxes.map af=rb at*;generalize aA s.gone=rs at*;simp (maxSteps:=9^9) [ba,eV.m,eV.b,ab,setAt,h1,h2,h4,er,eg]
  |some i=>
   rw[c3] at h1;obtain⟨hi,_⟩:=jT c3;rw[nH c3 hi];have hG:=(ev c1).boxes.mh _ (ax hi);have h6:=fH.ak kt s.boxes[i] hG.vz m;have a1:∀hh,(s.boxes.map af)[i]'hh=af s.boxes[i]:=by intro hh;simp
   have ni:¬(i:Int)<0:=by omega
   generalize lp s.boxes[i] m=A at*;obtain⟨b',ok⟩:=A;have es:(s.boxes.set i b').map af=(s.boxes.map af).set i (af b'):=iE;simp only[aq,a_,boxes,ints,dA] at h1 h2 h4 ⊢;simp only[af,b7,ae,ints] at h6 a1 es;cases ok
   ·simp only[aB,if_false];generalize s.boxes.map af=rb at*;generalize aA s.gone=rs at*;generalize s.boxes[i].ae.map ah=r1 at*;generalize aA s.boxes[i].gone=r2 at*;generalize b'.ae.map ah=r3 at*;generalize aA b'.gone=r4 at*;simp (maxSteps:=9^9) [ba,eV.m,eV.b,ab,setAt,hi,ni,h1,h2,h4,h6,er,eg,a1]
   ·simp only[if_true,es];clear es;generalize s.boxes.map af=rb at*;generalize aA s.gone=rs at*;generalize s.boxes[i].ae.map ah=r1 at*;generalize aA s.boxes[i].gone=r2 at*;generalize b'.ae.map ah=r3 at*;generalize aA b'.gone=r4 at*;simp (maxSteps:=9^9) [ba,eV.m,eV.b,ab,setAt,hi,ni,h1,h2,h4,h6,er,eg,a1]
theorem dN.ak(h:dN.k M)(s:a7)(hs:nw s)(g:Int)(nm:List UInt8)(hn:nm.length≤1048576):
  run M 411 [.a (aq s),.c (I g),.c (S nm)] []=some (.lM [.a (aq (lx s g nm).1),.c (.bool (lx s g nm).2)],[]):=by
 obtain⟨h0,kb,ko,kc,kn,kst,koe⟩:=h;have ht:=hs.time;have h1:=gA.ak kb s g hs.m8.b;have h2:=aK.ak ko s hs.m8;have h3:=dG.ak kn s nm hs.m8.b;have h4:=bW.ak kc s hs.m8;have h5:=dO.ak kst s hs.time;have er:(s.boxes.map af).length=s.boxes.length:=by simp
 have eg:=aS s.gone;have e5:IntKind.i64.wrap (s.time+1)=s.time+1:=wrap_i64 (by omega) (by omega);refine au (b:=dN.m) h0 ⟨0, ?_⟩;unfold lx;cases c1:a8 s with
 |false=>
  rw[c1] at h2;simp only[aB,false_and,if_false];simp only[aq,a_,boxes,ints] at*;generalize s.boxes.map af=rb at*;generalize aA s.gone=rs at*;simp (maxSteps:=9^9) [ba,dN.m,dN.b,ab,setAt,h1,h2,h4,er,eg]
 |true=>
  rw[c1] at h2;cases c3:mI s.boxes g with
  |none=>
   rw[c3] at h1;have e:(if true=true∧(named s.boxes nm).isSome=false then at_ s g fun i b=>stamped s i (j_ s nm b) else(s,false))=(s,false):=by
    rw[nI c3];split<;>rfl
   rw[e];simp only[aq,a_,boxes,ints,dA] at*;generalize s.boxes.map af=rb at*;generalize aA s.gone=rs at*;simp (maxSteps:=9^9) [ba,dN.m,dN.b,ab,setAt,h1,h2,h4,er,eg]
  |some i=>
   rw[c3] at h1;obtain⟨hi,_⟩:=jT c3;have ni:¬(i:Int)<0:=by omega
   have c0:=lD (named s.boxes nm);cases c2:(named s.boxes nm).isSome with
   |true=>
    rw[c2] at c0;simp only[decide_eq_true_eq] at c0;simp only[Bool.true_eq_false,and_false,if_false];generalize dA (named s.boxes nm)=z at*;simp only[aq,a_,boxes,ints,dA] at*;generalize s.boxes.map af=rb at*;generalize aA s.gone=rs at*;simp (maxSteps:=9^9) [ba,dN.m,dN.b,ab,setAt,ni,c0,h1,h2,h3,h4,er,eg]
   |false=>
    rw[c2] at c0;simp only[decide_eq_false_iff_not] at c0;rw[if_pos ⟨rfl,rfl⟩,nH c3 hi];have hG:=(ev c1).boxes.mh _ (ax hi);have hin:iw (j_ s nm s.boxes[i]):=⟨hG.vz.m,hG.vz.g,hn,hG.vz.f⟩;have h6:=ph koe s i (j_ s nm s.boxes[i]) (nR hs.m8 hi hin (by have:=oo c1;have:=hG.len;simp only[j_];omega)) hs.m8;have a1:∀hh,(s.boxes.map af)[i]'hh=af s.boxes[i]:=by intro hh;simp
    generalize stamped s i (j_ s nm s.boxes[i])=B at*;obtain⟨s',ok'⟩:=B;generalize dA (named s.boxes nm)=z at*;simp only[aq,a_,boxes,ints,dA] at h1 h2 h3 h4 h5 h6 ⊢;simp only[af,ae,ints,j_] at h6 a1 ⊢;generalize s'.boxes.map af=rb' at*;generalize aA s'.gone=rs' at*;generalize s.boxes.map af=rb at*;generalize aA s.gone=rs at*;generalize s.boxes[i].ae.map ah=r1 at*;generalize aA s.boxes[i].gone=r2 at*;simp (maxSteps:=9^9) [ba,dN.m,dN.b,ab,setAt,hi,ni,c0,h1,h2,h3,h4,h5,h6,e5,er,eg,a1]
theorem sE(h:bc.k M)(p:List (List T))(x:List T)(q:List (List T))(hl:p.length+(q.length+1)≤1048576):
  run M 442 [.c (.row 0 0 0 (p.length+(q.length+1))),.c (I p.length),.c (I ((p.length:Int)+1))] [(0,⟨0,7,true,false,p++x::q⟩)]=
   some (.c (.row 0 0 0 (p.length+q.length)),[(0,⟨0,7,true,false,p++q++[sZ]⟩)]):=by
 refine au (b:=bc.m) h ⟨0, ?_⟩;obtain⟨q',y,hy,hq'⟩:=C4 x q;have g1:(0:Int)≤(p.length:Int)+1:=by omega
 have g2:¬(p.length:Int)=(p.length:Int)+1:=by omega
 have g3:(p++x::q).take p.length=p:=by simp
 have g4:(p++x::q).drop (p.length+1)=q:=by simp
 have g5:(p++x::q).drop (p.length+q.length)=[y]:=by
  rw[hy,←hq',List.drop_append];simp
 have g6:p.length+(q.length+1)-(p.length+1)=q.length:=by omega
 have g7:(p++x::q).length=p.length+(q.length+1):=by simp
 have g8:p.length+(q.length+1)-(p.length+q.length)=1:=by omega
 have g9:p.length+q.length≤p.length+(q.length+1):=by omega
 have g10:p.length+q.length≤4294967296:=by omega
 have g11:¬p.length+q.length=p.length+(q.length+1):=by omega
 have g12:(p++q++[y]).length=p.length+(q.length+1):=by simp
 have g13:(p++q++[y]).take (p.length+q.length)=p++q:=by rw[←aD,List.take_left]
 have g19:(1:Int)≤(q.length:Int)+1:=by omega
 have g20:1≤q.length+1:=by omega
 have g14:(p++q++[y]).drop (p.length+(q.length+1))=[]:=dY (by rw[g12];omega);have g15:p.length+1≤p.length+(q.length+1):=by omega
 have g16:p.length+q.length+1=p.length+(q.length+1):=by omega
 have g17:(0:Int)≤(p.length:Int)+(q.length:Int):=by omega
 have g18:(0:Int)≤(p.length:Int)+((q.length:Int)+1):=by omega
 have g21:p.length+1+q.length≤p.length+(q.length+1):=by omega
 have g22:1+q.length≤q.length+1:=by omega
 generalize hR:p++x::q=R at*;simp only[b4] at g12 g13 g14;by_cases hq0:q=[]
 ·subst hq0;by_cases hz:p.length=0
  ·have hp:p=[]:=aY hz;subst hp;simp at g1 g2 g3 g4 g5 g6 g7 g8 g9 g10 g11 g12 g13 g14 g15 g16 g17 g18;simp (maxSteps:=9^9) (disch:=(first|omega|(simp;done)|(simp;omega))) [ba,bc.m,bc.b,g5]
  ·simp at g1 g2 g3 g4 g5 g6 g7 g8 g9 g10 g11 g12 g13 g14 g15 g16 g17 g18;simp (maxSteps:=9^9) (disch:=(first|omega|(simp;done)|(simp;omega))) [ba,bc.m,bc.b,g1,g2,g3,g5,g7,g10,hz]
 ·have g23:((p.length:Int)+(q.length:Int)).toNat=p.length+q.length:=by omega
  have g24:((p.length:Int)+((q.length:Int)+1)).toNat=p.length+(q.length+1):=by omega
  have g25:max ((p.length:Int)+(q.length:Int)) 0≤(p.length:Int)+((q.length:Int)+1):=by omega
  by_cases hz:p.length=0
  ·have hp:p=[]:=aY hz;subst hp;simp at g1 g2 g3 g4 g5 g6 g7 g8 g9 g10 g11 g12 g13 g14 g15 g16 g17 g18;simp (maxSteps:=9^9) (disch:=(first|omega|(simp;done)|(simp;omega))) [ba,bc.m,bc.b,ab,g4,g5,g7,g10,g18,g20,g22,hq0]
  ·simp (maxSteps:=9^9) (disch:=(first|omega|(simp;done)|(simp;omega))) [ba,bc.m,bc.b,ab,g1,g2,g3,g4,g5,g6,g7,g8,g9,g10,g12,g13,g14,g15,g16,g17,g18,g21,g23,g24,hz,hq0]
theorem tD(h:bc.k M)(r:List (List T))(k:Nat)(hk:k<r.length)(hl:r.length≤1048576):
  run M 442 [.c (.row 0 0 0 r.length),.c (I k),.c (I ((k:Int)+1))] [(0,⟨0,7,true,false,r⟩)]=
   some (.c (.row 0 0 0 (r.length-1)),[(0,⟨0,7,true,false,r.take k++r.drop (k+1)++[sZ]⟩)]):=by
 have e:r.take k++r[k]::r.drop (k+1)=r:=by simp
 have:=sE h (r.take k) r[k] (r.drop (k+1)) (by simp;omega);rw[e] at this;have e1:(r.take k).length=k:=by simp;omega
 have e2:(r.drop (k+1)).length=r.length-(k+1):=by simp
 rw[e1,e2] at this;have e3:k+(r.length-(k+1)+1)=r.length:=by omega
 have e4:k+(r.length-(k+1))=r.length-1:=by omega
 rw[e3,e4] at this;exact this
theorem fI.ak(h:fI.k M)(s:a7)(hs:nw s)(g:Int):
  run M 412 [.a (aq s),.c (I g)] []=some (.lM [.a (aq (nG s g).1),.c (.bool (nG s g).2)],[]):=by
 obtain⟨h0,kb,ko,kp,kc,kd⟩:=h;have h1:=gA.ak kb s g hs.m8.b;have h2:=aK.ak ko s hs.m8;have h4:=bW.ak kc s hs.m8;have h5:=jr.ak kp s.gone g hs.m8.g;have er:(s.boxes.map af).length=s.boxes.length:=by simp
 have eg:=aS s.gone;have hbl:=hs.m8.b;refine au (b:=fI.m) h0 ⟨0, ?_⟩;unfold nG;cases c1:a8 s with
 |false=>
  rw[c1] at h2;simp only[aB,false_and,if_false];simp only[aq,a_,boxes,ints] at*;generalize s.boxes.map af=rb at*;generalize aA s.gone=rs at*;simp (maxSteps:=9^9) [ba,fI.m,fI.b,ab,setAt,h1,h2,h4,er,eg]
 |true=>
  rw[c1] at h2;cases c3:mI s.boxes g with
  |none=>
   rw[c3] at h1;have e:(if true=true∧s.gone.length<20 then at_ s g fun i _=>({s with boxes:=s.boxes.take i++s.boxes.drop (i+1),gone:=la s.gone g},true) else(s,false))=(s,false):=by
    rw[nI c3];split<;>rfl
   rw[e];simp only[aq,a_,boxes,ints,dA] at*;generalize s.boxes.map af=rb at*;generalize aA s.gone=rs at*;simp (maxSteps:=9^9) [ba,fI.m,fI.b,ab,setAt,h1,h2,h4,er,eg]
  |some i=>
   rw[c3] at h1;obtain⟨hi,_⟩:=jT c3;have ni:¬(i:Int)<0:=by omega
   by_cases c2:s.gone.length<20
   ·have n2:¬s.gone.length=20:=by omega
    have n3:¬(s.gone.length:Int)=20:=by omega
    rw[if_pos ⟨rfl,c2⟩,nH c3 hi];rw[Bj (jK.1 c1).gone] at h5;have h6:=tD kd (s.boxes.map af) i (by rw[er];exact hi) (by rw[er];exact hbl);rw[er] at h6;have e9:=cA (i:=i) (by omega);have e10:(s.boxes.take i++s.boxes.drop (i+1)).map af=(s.boxes.map af).take i++(s.boxes.map af).drop (i+1):=by simp[List.map_take,List.map_drop]
    have e11:((s.boxes.map af).take i++((s.boxes.map af).drop (i+1)++[sZ])).take (s.boxes.length-1)=(s.boxes.map af).take i++(s.boxes.map af).drop (i+1):=by
     rw[←b4];exact List.take_left' (by simp;omega)
    have e12:=aS (la s.gone g);have e13:s.boxes.length≤min i s.boxes.length+(s.boxes.length-(i+1)+1)+1:=by omega
    simp only[aq,a_,boxes,ints,dA,e10] at h1 h2 h4 h5 h6 ⊢;generalize aA (la s.gone g)=rp at*;generalize s.boxes.map af=rb at*;generalize aA s.gone=rs at*;simp (maxSteps:=9^9) [ba,fI.m,fI.b,ab,setAt,ni,n3,h1,h2,h4,h5,h6,e9,e11,e12,e13,er,eg]
   ·have c2':(s.gone.length:Int)=20:=by have:=(jK.1 c1).oN;omega
    have c2'':s.gone.length=20:=by have:=(jK.1 c1).oN;omega
    simp only[c2,and_false,if_false];simp only[aq,a_,boxes,ints,dA] at*;generalize s.boxes.map af=rb at*;generalize aA s.gone=rs at*;simp (maxSteps:=9^9) [ba,fI.m,fI.b,ab,setAt,ni,c2'',h1,h2,h4,er,eg]
theorem Jb(p:bq→Bool):∀l:List bq,(∀i (h:i<l.length),i<(l.takeWhile p).length→p l[i]=true)∧(∀h:(l.takeWhile p).length<l.length,p l[(l.takeWhile p).length]=false)
 |[]=>⟨fun i h=>by simp at h,fun h=>by simp at h⟩
 |x::l=>by
  obtain⟨h1,h2⟩:=Jb p l;by_cases c:p x=true
  ·simp only[List.takeWhile_cons,c,if_true,bV];refine⟨fun i h hi=> ?_,fun h=> ?_⟩
   ·cases i with
    |zero=>simpa using c
    |succ i=>simpa using h1 i (by simpa using h) (by omega)
   ·simpa using h2 (by omega)
  ·have c':p x=false:=by simpa using c
   simp only[List.takeWhile_cons,c',aB,if_false,dy];exact⟨fun i h hi=>by omega,fun _=>by simpa using c'⟩
theorem EW(p:bq→Bool)(l:List bq):(l.takeWhile p).length≤l.length:=by
 have:=congrArg List.length (List.takeWhile_append_dropWhile (p:=p) (l:=l));simp only[aD] at this;omega
theorem Hd(p:bq→Bool)(l:List bq):l.take (l.takeWhile p).length=l.takeWhile p:=by
 have:=List.takeWhile_append_dropWhile (p:=p) (l:=l);exact(congrArg (List.take _) this.symm).trans (List.take_left' rfl)
theorem He(p:bq→Bool)(l:List bq):l.drop (l.takeWhile p).length=l.dropWhile p:=by
 have:=List.takeWhile_append_dropWhile (p:=p) (l:=l);exact(congrArg (List.drop _) this.symm).trans (List.drop_left' rfl)
theorem yq(g:Int):∀l:List bq,(l.Pairwise fun x y=>x.gid<y.gid)→(∀b∈l,b.gid≠g)→
  l.takeWhile (fun b=>decide (b.gid<g))=l.filter (fun b=>decide (b.gid<g))∧l.dropWhile (fun b=>decide (b.gid<g))=l.filter (fun b=>decide (g<b.gid))
 |[],_,_=>⟨rfl,rfl⟩
 |x::l,ha,hn=>by
  rw[List.pairwise_cons] at ha;obtain⟨h1,h2⟩:=yq g l ha.2 fun b hb=>hn b (bo _ hb)
  have hx:=hn x (bl ..);by_cases c:x.gid<g
  ·have c':¬g<x.gid:=by omega
   simp only[List.takeWhile_cons,List.dropWhile_cons,iI,c,c',decide_true,decide_false,if_true,aB,if_false,h1,h2,and_self]
  ·have c':g<x.gid:=by omega
   simp only[List.takeWhile_cons,List.dropWhile_cons,iI,c,c',decide_true,decide_false,if_true,aB,if_false];have f1:l.filter (fun b=>decide (b.gid<g))=[]:=List.filter_eq_nil_iff.2 fun b hb=>by have:=ha.1 b hb;simp;omega
   have f2:l.filter (fun b=>decide (g<b.gid))=l:=List.filter_eq_self.2 fun b hb=>by have:=ha.1 b hb;simp;omega
   rw[f1,f2];exact⟨rfl,rfl⟩
structure Mm where
 s:a7
 g:Int
 nm:List UInt8
 u3:Nat
 u6:Nat
 u8:Nat
 w2:Nat
 w3:Nat
def Lk(c:Mm):List (Nat×Ob):=[(3,⟨c.u3,4,true,true,[aq c.s]⟩),(6,⟨c.u6,4,true,true,[oL]⟩),(8,⟨c.u8,4,true,true,[[I c.s.eJ,I c.s.time,.row 11102 c.w2 0 c.s.boxes.length,.row 11103 c.w3 0 c.s.gone.length]]⟩),(11102,⟨c.w2,7,true,false,c.s.boxes.map af⟩),(11103,⟨c.w3,1,true,false,aA c.s.gone⟩)]
def Lj(c:Mm)(i:Nat)(n:Nat):St:={t:=[(1,.c (I c.g)),(2,.c (S c.nm)),(3,.c (.ptr 3 c.u3 0 0)),(6,.c (.ptr 6 c.u6 0 0)),(8,.c (.ptr 8 c.u8 0 0)),(9,.c (I i))],o:=Lk c,n:=n}
def Mb(c:Mm)(i:Nat)(n:Nat):St:={t:=[(1,.c (I c.g)),(2,.c (S c.nm)),(3,.c (.ptr 3 c.u3 0 0)),(6,.c (.ptr 6 c.u6 0 0)),(8,.c (.ptr 8 c.u8 0 0)),(9,.c (I i)),(41,.c (.bool false))],o:=Lk c,n:=n}
theorem HR(k:Nat)(c:Mm)(hl:c.s.boxes.length≤1048576):
  ∃f:Nat→Nat,∀n,fx (cz (run M) k cU.l0) ((c.s.boxes.takeWhile fun b=>decide (b.gid<c.g)).length+1) (Lj c 0 n)=some (.exit 0,Mb c (c.s.boxes.takeWhile fun b=>decide (b.gid<c.g)).length (f n)):=by
 have er:(c.s.boxes.map af).length=c.s.boxes.length:=by simp
 have htl:=EW (fun b:bq=>decide (b.gid<c.g)) c.s.boxes;obtain⟨t1,t2⟩:=Jb (fun b:bq=>decide (b.gid<c.g)) c.s.boxes;generalize (c.s.boxes.takeWhile fun b=>decide (b.gid<c.g)).length=at' at*;exact kq (f:=cz (run M) k cU.l0) at' (Lj c) 0 (Mb c at')
  (fun i hi n=>by
   have hi2:i<c.s.boxes.length:=by omega
   have q:=t1 i hi2 hi;simp only[decide_eq_true_eq] at q;have e5:=cA (i:=i) (by omega);have a1:∀hh,(c.s.boxes.map af)[i]'hh=af c.s.boxes[i]:=by intro hh;simp
   simp only[Lj,Lk,aq,boxes,ints];simp only[af,ae,ints] at a1;generalize c.s.boxes.map af=rb at*;generalize aA c.s.gone=rs at*;generalize c.s.boxes[i].ae.map ah=r1 at*;generalize aA c.s.boxes[i].gone=r2 at*;simp (maxSteps:=9^9) [cU.l0,hi2,q,e5,er,a1])
  (fun n=>by
   simp only[Lj,Mb,Lk,aq,boxes,ints];by_cases c9:at'<c.s.boxes.length
   ·have q:=t2 c9;simp only[decide_eq_false_iff_not] at q;have a1:∀hh,(c.s.boxes.map af)[at']'hh=af c.s.boxes[at']:=by intro hh;simp
    simp only[af,ae,ints] at a1;generalize c.s.boxes.map af=rb at*;generalize aA c.s.gone=rs at*;generalize c.s.boxes[at'].ae.map ah=r1 at*;generalize aA c.s.boxes[at'].gone=r2 at*;simp (maxSteps:=9^9) [cU.l0,c9,q,er,a1]
   ·generalize c.s.boxes.map af=rb at*;generalize aA c.s.gone=rs at*;simp (maxSteps:=9^9) [cU.l0,c9])
theorem DX{s:a7}{g:Int}(h:qe s g=false):∀b∈s.boxes,b.gid≠g:=by
 intro b hb e;unfold qe at h;rw[A5] at h;simp only[fT,List.any_eq_false,decide_eq_true_eq] at h;exact h.1.1 b hb e
theorem Ik(h:M 440=some (.ext B9))(r:List (List T))(x:List T)(i:Nat)(hi:i≤r.length)(hl:r.length≤1048576):
  run M 440 [.c (.row 0 0 0 r.length),.c (I i),.c (.row 2 2 0 1)] [(0,⟨0,7,true,false,r⟩),(2,⟨2,7,true,false,[x]⟩)]=some (.c (.sl true 7 (r.take i++[x]++r.drop i)),[(2,⟨2,7,true,false,[x]⟩)]):=by
 refine zm h ?_;have h1:(0:Int)≤(i:Int):=by omega
 have h2:(i:Int)≤(r.length:Int):=by omega
 simp only[B9,fB,bM,Nat.le_refl,h1,h2,hl,and_self,if_true,List.take_length]
theorem cU.ak(h:cU.k M)(s:a7)(hs:nw s)(g:Int)(nm:List UInt8)(hn:nm.length≤1048576):
  run M 409 [.a (aq s),.c (I g),.c (S nm)] []=some (.lM [.a (aq (nE s g nm).1),.c (.bool (nE s g nm).2)],[]):=by
 obtain⟨h0,ko,kc,kn,kk,kst,ki,koe⟩:=h;have ht:=hs.time;have hbl:=hs.m8.b;have h2:=aK.ak ko s hs.m8;have h3:=dG.ak kn s nm hs.m8.b;have h7:=fy.ak kk s g hs.m8;have h4:=bW.ak kc s hs.m8;have h5:=dO.ak kst s hs.time;have er:(s.boxes.map af).length=s.boxes.length:=by simp
 have eg:=aS s.gone;have e5:IntKind.i64.wrap (s.time+1)=s.time+1:=wrap_i64 (by omega) (by omega);have c0:=lD (named s.boxes nm);refine au (b:=cU.m) h0 ⟨(s.boxes.takeWhile fun b=>decide (b.gid<g)).length+1, ?_⟩;unfold nE;cases c1:a8 s with
 |false=>
  rw[c1] at h2;simp only[aB,false_and,if_false];simp only[aq,a_,boxes,ints] at*;generalize s.boxes.map af=rb at*;generalize aA s.gone=rs at*;simp (maxSteps:=9^9) [ba,cU.m,cU.b,ab,setAt,h2,h4,er,eg]
 |true=>
  rw[c1] at h2;cases c2:qe s g with
  |true=>
   rw[c2] at h7;simp only[Bool.true_eq_false,false_and,and_false,if_false];simp only[aq,a_,boxes,ints] at*;generalize s.boxes.map af=rb at*;generalize aA s.gone=rs at*;simp (maxSteps:=9^9) [ba,cU.m,cU.b,ab,setAt,h2,h4,h7,er,eg]
  |false=>
   rw[c2] at h7;cases c3:(named s.boxes nm).isSome with
   |true=>
    rw[c3] at c0;simp only[decide_eq_true_eq] at c0;simp only[Bool.true_eq_false,and_false,if_false];generalize dA (named s.boxes nm)=z at*;simp only[aq,a_,boxes,ints] at*;generalize s.boxes.map af=rb at*;generalize aA s.gone=rs at*;simp (maxSteps:=9^9) [ba,cU.m,cU.b,ab,setAt,c0,h2,h3,h4,h7,er,eg]
   |false=>
    rw[c3] at c0;simp only[decide_eq_false_iff_not] at c0;rw[if_pos ⟨rfl,rfl,rfl⟩];have h6:=fY.ak koe (iL s g nm) s (yH c1 g nm hn) hs.m8;obtain⟨f,r1⟩:=HR (M:=M) ((s.boxes.takeWhile fun b=>decide (b.gid<g)).length+1) ⟨s,g,nm,2000000,2000016,2000080,2000066,2000067⟩ hbl;have hat:=EW (fun b:bq=>decide (b.gid<g)) s.boxes;have h8:=Ik ki (s.boxes.map af) (af (nJ s g nm)) (s.boxes.takeWhile fun b=>decide (b.gid<g)).length (by rw[er];exact hat) (by rw[er];exact hbl);have em:(iL s g nm).boxes.map af=(s.boxes.map af).take (s.boxes.takeWhile fun b=>decide (b.gid<g)).length++[af (nJ s g nm)]++(s.boxes.map af).drop (s.boxes.takeWhile fun b=>decide (b.gid<g)).length:=by
     obtain⟨f1,f2⟩:=yq g s.boxes (jK.1 c1).Jq (DX c2);rw[←List.map_take,←List.map_drop,Hd,He,f1,f2];simp[iL]
    rw[←em,er] at h8;have el:((iL s g nm).boxes.map af).length=s.boxes.length+1:=by rw[em];simp;omega
    have ez:((0:Nat):Int)=0:=rfl;have ew:(iL s g nm).eJ=s.eJ:=rfl;have et:(iL s g nm).time=s.time+1:=rfl;have egn:(iL s g nm).gone=s.gone:=rfl;have en:af (nJ s g nm)=[I g,S nm,I (s.time+1),I s.eJ,I 1,.sl false 4 [],.sl false 1 []]:=by simp[nJ,af,aA]
    have hres:(if a8 (iL s g nm)=true then(iL s g nm,true) else(s,false))=((if a8 (iL s g nm)=true then iL s g nm else s),a8 (iL s g nm)):=by
     cases a8 (iL s g nm)<;>rfl
    rw[hres];generalize hX:(if a8 (iL s g nm)=true then iL s g nm else s)=X at*;generalize a8 (iL s g nm)=wX at*;have hr0:=r1 2000352;clear em hX;simp only[Lj,Mb,Lk,ez] at hr0;simp only[aq,a_,boxes,ints,ew,et,egn,en] at h2 h3 h4 h5 h6 h7 h8 hr0 ⊢;generalize (iL s g nm).boxes.map af=rm at*;generalize X.boxes.map af=rx at*;generalize aA X.gone=gx at*;generalize dA (named s.boxes nm)=z at*;generalize s.boxes.map af=rb at*;generalize aA s.gone=rs at*;generalize (s.boxes.takeWhile fun b=>decide (b.gid<g)).length=at' at*;simp (maxSteps:=9^9) [ba,cU.m,cU.b,ab,setAt,c0,h2,h3,h4,h5,h6,h7,h8,hr0,e5,er,eg,el]
def xg(s t:a7):a7×Bool:=if t.eJ=s.eJ∨ly s t=false then(s,false) else(dm s t,true)
def jS(s:a7)(c:j8):a7×Bool:=
 if oq c=false then(s,false) else
 if c.kind=1 then nE s c.box c.text else if c.kind=2 then lx s c.box c.text else if c.kind=3 then nG s c.box else
 if c.kind=4 then nD s c.box c.gid c.flags c.text else if c.kind=5 then ml s c.box c.gid c.flags else if c.kind=6 then mo s c.box c.gid else
 xg s (gB c.text).1
theorem sM(l:List UInt8):gr (gB l).1:=by
 cases h:(gB l).2 with
 |true=>exact(pj (zp h).1).m8
 |false=>
  have:(gB l).1=lf:=by
   unfold gB at h ⊢;split
   ·rename_i c;rw[if_pos c] at h;cases h
   ·rfl
  rw[this];exact⟨by simp[lf],by simp[lf],by simp[lf],by simp[lf]⟩
theorem cM.ak(h:cM.k M)(s:a7)(hs:nw s)(c:j8)(hc:c.text.length≤1048576):
  run M 469 [.a (aq s),.a (cp c)] []=some (.lM [.a (aq (jS s c).1),.c (.bool (jS s c).2)],[]):=by
 obtain⟨h0,kco,krs,kcs,kmb,kpm,krb,kdb,kmm,kdm,kfs,kjs⟩:=h;have h1:=aN.ak kco c hc;have h2:=bW.ak kcs s hs.m8;have e1:=cU.ak kmb s hs c.box c.text hc;have e2:=dN.ak krb s hs c.box c.text hc;have e3:=fI.ak kdb s hs c.box;have e4:=fa.ak kpm s hs c.box c.gid c.flags c.text;have e5:=eU.ak kmm s hs c.box c.gid c.flags;have e6:=eV.ak kdm s hs c.box c.gid;have h3:=bB.ak krs c.text hc;have hri:=sM c.text;have h4:=fe.ak kfs s (gB c.text).1 hs.m8 hri;refine au (b:=cM.m) h0 ⟨0, ?_⟩;unfold jS;cases ck:oq c with
 |false=>
  rw[ck] at h1;rw[if_pos rfl];simp only[aq,a_,boxes,ints] at h1 h2 ⊢;generalize s.boxes.map af=rb at*;generalize aA s.gone=rs at*;simp (maxSteps:=9^9) [ba,cM.m,cM.b,ab,setAt,h1,h2]
 |true=>
  rw[ck] at h1;rw[if_neg (by simp)];by_cases k1:c.kind=1
  ·rw[if_pos k1];simp only[cp,k1] at h1;generalize nE s c.box c.text=y at*;obtain⟨y,o⟩:=y;simp only[aq,boxes,ints] at h1 e1 ⊢;generalize y.boxes.map af=yb at*;generalize aA y.gone=ys at*;generalize s.boxes.map af=rb at*;generalize aA s.gone=rs at*;simp (maxSteps:=9^9) [ba,cM.m,cM.b,ab,setAt,h1,e1,k1]
  rw[if_neg k1];by_cases k2:c.kind=2
  ·rw[if_pos k2];simp only[cp,k2] at h1;generalize lx s c.box c.text=y at*;obtain⟨y,o⟩:=y;simp only[aq,boxes,ints] at h1 e2 ⊢;generalize y.boxes.map af=yb at*;generalize aA y.gone=ys at*;generalize s.boxes.map af=rb at*;generalize aA s.gone=rs at*;simp (maxSteps:=9^9) [ba,cM.m,cM.b,ab,setAt,h1,e2,k2]
  rw[if_neg k2];by_cases k3:c.kind=3
  ·rw[if_pos k3];simp only[cp,k3] at h1;generalize nG s c.box=y at*;obtain⟨y,o⟩:=y;simp only[aq,boxes,ints] at h1 e3 ⊢;generalize y.boxes.map af=yb at*;generalize aA y.gone=ys at*;generalize s.boxes.map af=rb at*;generalize aA s.gone=rs at*;simp (maxSteps:=9^9) [ba,cM.m,cM.b,ab,setAt,h1,e3,k3]
  rw[if_neg k3];by_cases k4:c.kind=4
  ·rw[if_pos k4];simp only[cp,k4] at h1;generalize nD s c.box c.gid c.flags c.text=y at*;obtain⟨y,o⟩:=y;simp only[aq,boxes,ints] at h1 e4 ⊢;generalize y.boxes.map af=yb at*;generalize aA y.gone=ys at*;generalize s.boxes.map af=rb at*;generalize aA s.gone=rs at*;simp (maxSteps:=9^9) [ba,cM.m,cM.b,ab,setAt,h1,e4,k4]
  rw[if_neg k4];by_cases k5:c.kind=5
  ·rw[if_pos k5];simp only[cp,k5] at h1;generalize ml s c.box c.gid c.flags=y at*;obtain⟨y,o⟩:=y;simp only[aq,boxes,ints] at h1 e5 ⊢;generalize y.boxes.map af=yb at*;generalize aA y.gone=ys at*;generalize s.boxes.map af=rb at*;generalize aA s.gone=rs at*;simp (maxSteps:=9^9) [ba,cM.m,cM.b,ab,setAt,h1,e5,k5]
  rw[if_neg k5];by_cases k6:c.kind=6
  ·rw[if_pos k6];simp only[cp,k6] at h1;generalize mo s c.box c.gid=y at*;obtain⟨y,o⟩:=y;simp only[aq,boxes,ints] at h1 e6 ⊢;generalize y.boxes.map af=yb at*;generalize aA y.gone=ys at*;generalize s.boxes.map af=rb at*;generalize aA s.gone=rs at*;simp (maxSteps:=9^9) [ba,cM.m,cM.b,ab,setAt,h1,e6,k6]
  rw[if_neg k6];generalize (gB c.text).1=t at*;generalize (gB c.text).2=r2 at*;unfold xg;by_cases w:t.eJ=s.eJ
  ·rw[if_pos (.inl w)];have w':t.eJ=s.eJ:=w;simp only[aq,a_,boxes,ints] at h1 h2 h3 ⊢;generalize t.boxes.map af=tb at*;generalize aA t.gone=ts at*;generalize s.boxes.map af=rb at*;generalize aA s.gone=rs at*;simp (maxSteps:=9^9) [ba,cM.m,cM.b,ab,setAt,h1,h2,h3,k1,k2,k3,k4,k5,k6,w]
  cases ft:ly s t with
  |false=>
   rw[if_pos (.inr rfl)];rw[ft] at h4;simp only[aq,a_,boxes,ints] at h1 h2 h3 h4 ⊢;generalize t.boxes.map af=tb at*;generalize aA t.gone=ts at*;generalize s.boxes.map af=rb at*;generalize aA s.gone=rs at*;simp (maxSteps:=9^9) [ba,cM.m,cM.b,ab,setAt,h1,h2,h3,h4,k1,k2,k3,k4,k5,k6,w]
  |true=>
   rw[if_neg (by simp[w])];rw[ft] at h4;unfold ly at ft;simp only[aj] at ft;have h5:=bz.ak kjs s t (ev ft.1.1) (ev ft.1.2);have jw:(dm s t).eJ=s.eJ:=rfl;have jt:(dm s t).time=Max.max s.time t.time:=rfl;clear ft;generalize dm s t=J at*;simp only[aq,a_,boxes,ints,jw,jt] at h1 h2 h3 h4 h5 ⊢;generalize Max.max s.time t.time=tm at*;generalize J.boxes.map af=jb at*;generalize aA J.gone=js at*;generalize t.boxes.map af=tb at*;generalize aA t.gone=ts at*;generalize s.boxes.map af=rb at*;generalize aA s.gone=rs at*;simp (maxSteps:=9^9) [ba,cM.m,cM.b,ab,setAt,h1,h3,h4,h5,k1,k2,k3,k4,k5,k6,w]
theorem cL.ak(h:cL.k M)(s:a7)(hs:nw s)(c:j8)(hc:c.text.length≤1048576):
  run M 468 [.a (aq s),.a (cp c)] []=some (.lM [.a (aq (jS s c).1),.c (.bool (jS s c).2)],[]):=by
 obtain⟨h0,kco,krs,kcs,kmb,kpm,kmm,kdm,krb,kdb,kfs,kjs⟩:=h;have h1:=aV.ak kco c hc;have h2:=b5.ak kcs s hs.m8;have e1:=bY.ak kmb s hs c.box c.text hc;have e2:=cV.ak krb s hs c.box c.text hc;have e3:=eY.ak kdb s hs c.box;have e4:=eX.ak kpm s hs c.box c.gid c.flags c.text;have e5:=eP.ak kmm s hs c.box c.gid c.flags;have e6:=eQ.ak kdm s hs c.box c.gid;have h3:=bh.ak krs c.text hc;have hri:=sM c.text;have h4:=fb.ak kfs s (gB c.text).1 hs.m8 hri;refine au (b:=cL.m) h0 ⟨0, ?_⟩;unfold jS;cases ck:oq c with
 |false=>
  rw[ck] at h1;rw[if_pos rfl];simp only[aq,a_,boxes,ints] at h1 h2 ⊢;generalize s.boxes.map af=rb at*;generalize aA s.gone=rs at*;simp (maxSteps:=9^9) [ba,cL.m,cL.b,ab,setAt,h1,h2]
 |true=>
  rw[ck] at h1;rw[if_neg (by simp)];by_cases k1:c.kind=1
  ·rw[if_pos k1];simp only[cp,k1] at h1;generalize nE s c.box c.text=y at*;obtain⟨y,o⟩:=y;simp only[aq,a_,boxes,ints] at h1 e1 ⊢;generalize y.boxes.map af=yb at*;generalize aA y.gone=ys at*;generalize s.boxes.map af=rb at*;generalize aA s.gone=rs at*;simp (maxSteps:=9^9) [ba,cL.m,cL.b,ab,setAt,h1,e1,k1]
  rw[if_neg k1];by_cases k2:c.kind=2
  ·rw[if_pos k2];simp only[cp,k2] at h1;generalize lx s c.box c.text=y at*;obtain⟨y,o⟩:=y;simp only[aq,a_,boxes,ints] at h1 e2 ⊢;generalize y.boxes.map af=yb at*;generalize aA y.gone=ys at*;generalize s.boxes.map af=rb at*;generalize aA s.gone=rs at*;simp (maxSteps:=9^9) [ba,cL.m,cL.b,ab,setAt,h1,e2,k2]
  rw[if_neg k2];by_cases k3:c.kind=3
  ·rw[if_pos k3];simp only[cp,k3] at h1;generalize nG s c.box=y at*;obtain⟨y,o⟩:=y;simp only[aq,a_,boxes,ints] at h1 e3 ⊢;generalize y.boxes.map af=yb at*;generalize aA y.gone=ys at*;generalize s.boxes.map af=rb at*;generalize aA s.gone=rs at*;simp (maxSteps:=9^9) [ba,cL.m,cL.b,ab,setAt,h1,e3,k3]
  rw[if_neg k3];by_cases k4:c.kind=4
  ·rw[if_pos k4];simp only[cp,k4] at h1;generalize nD s c.box c.gid c.flags c.text=y at*;obtain⟨y,o⟩:=y;simp only[aq,a_,boxes,ints] at h1 e4 ⊢;generalize y.boxes.map af=yb at*;generalize aA y.gone=ys at*;generalize s.boxes.map af=rb at*;generalize aA s.gone=rs at*;simp (maxSteps:=9^9) [ba,cL.m,cL.b,ab,setAt,h1,e4,k4]
  rw[if_neg k4];by_cases k5:c.kind=5
  ·rw[if_pos k5];simp only[cp,k5] at h1;generalize ml s c.box c.gid c.flags=y at*;obtain⟨y,o⟩:=y;simp only[aq,a_,boxes,ints] at h1 e5 ⊢;generalize y.boxes.map af=yb at*;generalize aA y.gone=ys at*;generalize s.boxes.map af=rb at*;generalize aA s.gone=rs at*;simp (maxSteps:=9^9) [ba,cL.m,cL.b,ab,setAt,h1,e5,k5]
  rw[if_neg k5];by_cases k6:c.kind=6
  ·rw[if_pos k6];simp only[cp,k6] at h1;generalize mo s c.box c.gid=y at*;obtain⟨y,o⟩:=y;simp only[aq,a_,boxes,ints] at h1 e6 ⊢;generalize y.boxes.map af=yb at*;generalize aA y.gone=ys at*;generalize s.boxes.map af=rb at*;generalize aA s.gone=rs at*;simp (maxSteps:=9^9) [ba,cL.m,cL.b,ab,setAt,h1,e6,k6]
  rw[if_neg k6];generalize (gB c.text).1=t at*;generalize (gB c.text).2=r2 at*;unfold xg;by_cases w:t.eJ=s.eJ
  ·rw[if_pos (.inl w)];have w':t.eJ=s.eJ:=w;simp only[aq,a_,boxes,ints] at h1 h2 h3 ⊢;generalize t.boxes.map af=tb at*;generalize aA t.gone=ts at*;generalize s.boxes.map af=rb at*;generalize aA s.gone=rs at*;simp (maxSteps:=9^9) [ba,cL.m,cL.b,ab,setAt,h1,h2,h3,k1,k2,k3,k4,k5,k6,w]
  cases ft:ly s t with
  |false=>
   rw[if_pos (.inr rfl)];rw[ft] at h4;simp only[aq,a_,boxes,ints] at h1 h2 h3 h4 ⊢;generalize t.boxes.map af=tb at*;generalize aA t.gone=ts at*;generalize s.boxes.map af=rb at*;generalize aA s.gone=rs at*;simp (maxSteps:=9^9) [ba,cL.m,cL.b,ab,setAt,h1,h2,h3,h4,k1,k2,k3,k4,k5,k6,w]
  |true=>
   rw[if_neg (by simp[w])];rw[ft] at h4;unfold ly at ft;simp only[aj] at ft;have h5:=bH.ak kjs s t (ev ft.1.1) (ev ft.1.2);have jw:(dm s t).eJ=s.eJ:=rfl;have jt:(dm s t).time=Max.max s.time t.time:=rfl;clear ft;generalize dm s t=J at*;simp only[aq,a_,boxes,ints,jw,jt] at h1 h2 h3 h4 h5 ⊢;generalize Max.max s.time t.time=tm at*;generalize J.boxes.map af=jb at*;generalize aA J.gone=js at*;generalize t.boxes.map af=tb at*;generalize aA t.gone=ts at*;generalize s.boxes.map af=rb at*;generalize aA s.gone=rs at*;simp (maxSteps:=9^9) [ba,cL.m,cL.b,ab,setAt,h1,h3,h4,h5,k1,k2,k3,k4,k5,k6,w]
end Mx
namespace Mx
open Go
variable {M:Nat→Option Body}
theorem DF{s:a7}(h:iW s≤1048576):gr s:=by
 unfold iW at h;have h2:mA s.boxes≤1048576:=by omega
 have hb:∀b∈s.boxes,iw b:=by
  intro b hb;have:=Nat.le_trans (ze hb) h2;obtain⟨w1,w2,w3,w4⟩:=EO this;exact⟨w1,w2,w3,w4⟩
 refine⟨by unfold mA at h2;omega,by omega,hb, ?_⟩;have key:∀l:List bq,(l.flatMap bZ).length≤(l.map n_).sum:=by
  intro l
  induction l with
  |nil=>simp
  |cons b l ih=>
   have:(bZ b).length≤n_ b:=by rw[jv];unfold n_ mK;omega
   simp only[cj,aD,bu,List.sum_cons];omega
 have:=key s.boxes;unfold mA at h2;omega
theorem e_.in(h:e_.k M){b:bq}(c:fA b=true):run M 123 [.a [I b.gid,S b.name,I b.time,I b.eJ,I b.next,ae b.ae,ints b.gone]] []=some (.c (S (pG b)),[]):=e_.ak h b c
def LV(s:a7)(i:Nat)(t:List UInt8)(x:Nat×Nat):St:={t:=[(1,.c (.ptr 1 x.1 0 0)),(4,.c (S t)),(20,.c (boxes s.boxes)),(21,.c (I s.boxes.length)),(22,.c (I i))],o:=[(1,⟨x.1,4,true,true,[aq s]⟩)],n:=x.2}
def Mu(s:a7)(t:List UInt8)(x:Nat×Nat):St:={t:=[(1,.c (.ptr 1 x.1 0 0)),(4,.c (S t)),(20,.c (boxes s.boxes)),(21,.c (I s.boxes.length)),(22,.c (I s.boxes.length)),(23,.c (.bool false))],o:=[(1,⟨x.1,4,true,true,[aq s]⟩)],n:=x.2}
theorem cX.ak(h:cX.k M)(s:a7)(hs:gr s):run M 61 [.a (aq s)] []=some (.lM [.c (S (f_ s).1),.c (.bool (f_ s).2)],[]):=by
 obtain⟨h0,kse,kb,ko,kv⟩:=h;have h1:=aK.ak ko s hs;refine au (b:=cX.m) h0 ⟨s.boxes.length+1, ?_⟩;simp only[aq] at h1;unfold f_;cases c:a8 s
 ·rw[c] at h1;simp (maxSteps:=9^9) [ba,cX.m,cX.b,aa,h1]
 rw[c] at h1;obtain⟨v1,v2,v3,v4,v5,v6,_⟩:=oS c;have g1:=fE.ak kv [s.eJ,s.time,(s.boxes.length:Int)] (by simp) (by simp;exact⟨v1,v2,by unfold isVar;omega⟩);have g2:=fE.ak kv [(s.gone.length:Int)] (by simp) (by simp;unfold isVar;omega);have g3:=fE.ak kv s.gone (by omega) v5;have l1:=cO v1;have l2:=cO v2;have l8:=jC (n:=s.gone.length) (by omega);have l9:=kZ fP s.gone 10 fun n hn=>cO (v5 n hn)
 have l10:=kZ pG s.boxes 11000 fun b hb=>qp (v6 b hb)
 have hp:=wB c;obtain⟨g,hr⟩:=mY (f:=cz (run M) (s.boxes.length+1) cX.l0) s.boxes pG 11000 30 (fun b hb=>qp (v6 b hb)) (LV s) 0 (Mu s)
  (fun i hi t x ht=>by
   obtain⟨v,x⟩:=x;have e5:=cA (i:=i) (by omega);have hx:=v6 _ (ax hi);have h6:=e_.in kb hx;have h7:=qp hx;simp only[aE];have e6:=bT t (pG s.boxes[i]) (by omega);simp (maxSteps:=9^9) [cX.l0,setAt,LV,hi,h6,e5,e6,af])
  (fun t x=>by
   obtain⟨v,x⟩:=x;simp only[aE];simp (maxSteps:=9^9) [cX.l0,LV,Mu]) (mB s) hp
 have q1:texts fP [s.eJ,s.time,(s.boxes.length:Int)]=mB s:=by simp[texts,mB,fP]
 have q2:texts fP [(s.gone.length:Int)]=kJ s.gone.length:=by simp[texts,fP]
 rw[q1] at g1;rw[q2] at g2;have e8:=bT (mB s++texts pG s.boxes) (kJ s.gone.length) (by simp;omega);have e9:=bT (mB s++texts pG s.boxes++kJ s.gone.length) (texts fP s.gone) (by simp;omega);have hse:=iJ.ak kse (storeT s) (by simp only[storeT,aD];omega);simp only[storeT] at hse ⊢;simp only[b4] at e8 e9 hse;simp only[ints,aA,bu,bS] at g1 g2;simp[LV,Mu] at hr;generalize mB s=p at*;generalize texts pG s.boxes=q at*;generalize texts fP s.gone=r at*;simp (maxSteps:=9^9) [ba,cX.m,cX.b,aa,hr,h1,g1,g2,g3,e8,e9,hse,ab]
def oh(a b:a7):Bool:=decide ((f_ a).1=(f_ b).1)
theorem BT{l:List UInt8}(h:(kU l).2=true):4≤(kU l).1.length:=by
 unfold kU at h ⊢;split at h
 ·cases h
 ·rename_i c;rw[if_neg c];simp[tZ]
theorem DM{l:List UInt8}(h:(kU l).2=false):(kU l).1=[]:=by
 unfold kU at h ⊢;split at h
 ·rename_i c;rw[if_pos c]
 ·cases h
theorem sJ(s:a7):(f_ s).2=true↔(f_ s).1≠[]:=by
 unfold f_;split
 ·constructor
  ·intro h e;have:=BT h;rw[e] at this;simp at this
  ·intro h;cases hs:(kU (storeT s)).2
   ·exact(h (DM hs)).elim
   ·rfl
 ·simp
theorem fR.ak(h:fR.k M)(a b:a7)(ha:gr a)(hb:gr b):run M 62 [.a (aq a),.a (aq b)] []=some (.c (.bool (oh a b)),[]):=by
 obtain⟨h0,k1⟩:=h;have h1:=b6.ak k1 a ha;have h2:=b6.ak k1 b hb;have i1:=sJ a;have i2:=sJ b;refine au (b:=fR.m) h0 ⟨0, ?_⟩;unfold oh;simp only[aq] at h1 h2;generalize f_ a=x at*;generalize f_ b=y at*;obtain⟨x,p⟩:=x;obtain⟨y,q⟩:=y;simp only at i1 i2;by_cases c:x=y
 ·subst c;have:p=q:=by
   cases p<;>cases q<;>simp_all
  subst this;simp (maxSteps:=9^9) [ba,fR.m,fR.b,aa,h1,h2]
 ·cases p<;>cases q<;>simp (maxSteps:=9^9) [ba,fR.m,fR.b,aa,h1,h2,c]
theorem gD.ak(h:gD.k M)(a b:a7)(ha:gr a)(hb:gr b):run M 63 [.a (aq a),.a (aq b)] []=some (.c (.bool (oh a b)),[]):=by
 obtain⟨h0,k1⟩:=h;have h1:=cX.ak k1 a ha;have h2:=cX.ak k1 b hb;refine au (b:=gD.m) h0 ⟨0, ?_⟩;unfold oh;simp only[aq] at h1 h2;simp (maxSteps:=9^9) [ba,gD.m,gD.b,aa,h1,h2]
end Mx
namespace Mx
open Go
attribute [-simp] cz step mL lL oY pv gh
variable {M:Nat→Option Body}
def Idle(s:a7)(x:a7×Bool):Prop:=x.2=false→x.1=s
theorem mg(s:a7):Idle s (s,false):=fun _=>rfl
theorem rM(s t:a7):Idle s (t,true):=fun h=>by cases h
theorem qQ(s:a7)(i:Nat)(b:bq):Idle s (stamped s i b):=by
 unfold stamped;split
 ·exact rM _ _
 ·exact mg _
theorem tT{s:a7}{g:Int}{f:Nat→bq→a7×Bool}(h:∀i b,Idle s (f i b)):Idle s (at_ s g f):=by
 unfold at_;split
 ·exact mg _
 ·split
  ·exact mg _
  ·exact h _ _
theorem D3(s:a7)(c:j8):Idle s (jS s c):=by
 unfold jS;split;·exact mg _
 split
 ·unfold nE;split
  ·split
   ·exact rM _ _
   ·exact mg _
  ·exact mg _
 split
 ·unfold lx;split
  ·exact tT fun i b=>qQ _ _ _
  ·exact mg _
 split
 ·unfold nG;split
  ·exact tT fun i b=>rM _ _
  ·exact mg _
 split
 ·unfold nD;split
  ·refine tT fun i b=> ?_
   split
   ·exact qQ _ _ _
   ·exact mg _
  ·exact mg _
 split
 ·unfold ml;split
  ·refine tT fun i b=> ?_
   split
   ·exact qQ _ _ _
   ·exact mg _
  ·exact mg _
 split
 ·unfold mo;split
  ·refine tT fun i b=> ?_
   split
   ·exact rM _ _
   ·exact mg _
  ·exact mg _
 unfold xg;split
 ·exact mg _
 ·exact rM _ _
end Mx
namespace Mx
open Go
theorem Cl{c:j8}(h:oq c=true)(k:¬c.kind=7):1≤c.box∧c.box≤9999:=by
 unfold oq at h;rw[if_neg k] at h;simp only[aj,kx,decide_eq_true_eq] at h;omega
theorem Iz{s:a7}(h:a8 s=true)(c:j8):a8 (jS s c).1=true:=by
 unfold jS;cases ck:oq c with
 |false=>rw[if_pos rfl];exact h
 |true=>
  rw[if_neg (by simp)];split;·exact B2 h ..
  split;·exact zn h ..
  split
  ·rename_i k;exact Cf h (Cl ck (by omega))
  split;·exact BX h ..
  split;·exact AB h ..
  split;·exact AY h ..
  unfold xg;split
  ·exact h
  ·rename_i q;have:ly s (gB c.text).1=true:=by
    cases z:ly s (gB c.text).1 with
    |true=>rfl
    |false=>exact(q (.inr z)).elim
   unfold ly at this;simp only[aj] at this;exact this.2
def iS:a7→List j8→a7×Nat
 |s,[]=>(s,0)
 |s,c::l=>((iS (jS s c).1 l).1,(if(jS s c).2 then 1 else 0)+(iS (jS s c).1 l).2)
theorem xD(c:j8):∀(l:List j8) (s:a7),iS s (l++[c])=((jS (iS s l).1 c).1,(iS s l).2+if(jS (iS s l).1 c).2 then 1 else 0)
 |[],s=>by simp only[List.nil_append,iS,Nat.zero_add,Nat.add_zero];rfl
 |d::l,s=>by
  rw[List.cons_append,iS,xD c l,iS];simp only[Nat.add_assoc]
theorem xC{l:List j8}(s:a7){i:Nat}(hi:i<l.length):iS s (l.take (i+1))=((jS (iS s (l.take i)).1 l[i]).1,(iS s (l.take i)).2+if(jS (iS s (l.take i)).1 l[i]).2 then 1 else 0):=by
 rw[List.take_succ_eq_append_getElem hi,xD]
theorem rT:∀(l:List j8) {s:a7},a8 s=true→a8 (iS s l).1=true
 |[],_,h=>h
 |c::l,_,h=>rT l (Iz h c)
theorem xE:∀(l:List j8) (s:a7),(iS s l).2≤l.length
 |[],_=>Nat.le_refl _
 |c::l,s=>by
  have:=xE l (jS s c).1;simp only[iS,bV];split<;>omega
def new(w:Int):a7:=⟨w,0,[],[]⟩
theorem sm{w:Int}(h1:1≤w)(h2:w≤2):a8 ⟨w,0,[],[]⟩=true:=(ER h1 h2).ok
structure s6 where
 store:a7
 cN:List UInt8
 saved:Int
def kW(j:List UInt8):List j8×Bool:=
 (((kN j).1.filter fun t=>(iu t).2).map fun t=>(iu t).1,decide ((kN j).2=j.length)&&(kN j).1.all fun t=>(iu t).2)
def xe(k:s6):Bool:=(kW k.cN).2&&a8 k.store&&kx 0 k.saved k.cN.length&&oh (iS (new k.store.eJ) (kW k.cN).1).1 k.store
end Mx
namespace Mx
open Go
attribute [-simp] cz step mL lL oY pv gh
variable {M:Nat→Option Body}
def G9:List T:=[I 0,I 0,.aL 7,.aL 1]
abbrev calls(l:List j8):T:= .sl false 5 (l.map cp)
def LF(d:a7)(x:Nat×Nat×Nat):List (Nat×Ob):=[(4,⟨x.1,4,true,true,[G9]⟩),(6,⟨x.2.1,4,true,true,[aq d]⟩)]
def LD(l:List j8)(d:a7×Nat)(i:Nat)(x:Nat×Nat×Nat):List (Nat×V):=[(4,.c (.ptr 4 x.1 0 0)),(6,.c (.ptr 6 x.2.1 0 0)),(7,.c (I d.2)),(14,.c (calls l)),(15,.c (I l.length)),(16,.c (I i))]
def Mf(s:a7)(l:List j8)(i:Nat)(x:Nat×Nat×Nat):St:={t:=LD l (iS s (l.take i)) i x,o:=LF (iS s (l.take i)).1 x,n:=x.2.2}
def M0(s:a7)(l:List j8)(x:Nat×Nat×Nat):St:={t:=LD l (iS s l) l.length x++[(17,.c (.bool false))],o:=LF (iS s l).1 x,n:=x.2.2}
theorem ig.ak(h:ig.k M)(s:a7)(hs:a8 s=true)(l:List j8)(hl:l.length≤4294967295)(hc:∀c∈l,c.text.length≤1048576):
  run M 451 [.a (aq s),.c (calls l)] []=some (.lM [.a (aq (iS s l).1),.c (I (iS s l).2)],[]):=by
 obtain⟨h0,kc,kd⟩:=h;have h1:=bW.ak kc s (pj hs).m8;have er:(l.map cp).length=l.length:=by simp
 obtain⟨g,hr⟩:=kq (f:=cz (run M) (l.length+1) ig.l0) l.length (Mf s l) 0 (M0 s l)
  (fun i hi x=>by
   have hok:a8 (iS s (l.take i)).1=true:=rT _ hs;have h2:=cM.ak kd (iS s (l.take i)).1 (pj hok) l[i] (hc _ (ax hi));have a1:∀hh,(l.map cp)[i]'hh=cp l[i]:=by intro hh;simp
   have e5:=cA (i:=i) (by omega);have hm:=xE (l.take i) s;rw[gd] at hm;have hi2:(i:Int)<l.length:=by omega
   simp only[Mf,LD,LF,xC s hi,aE];generalize iS s (l.take i)=d at*;obtain⟨d,m⟩:=d;simp only at h2 hm ⊢;generalize jS d l[i]=y at*;obtain⟨y,ok⟩:=y;have e6:=cA (i:=m) (by omega);simp only[aq,boxes,ints,cp,G9,calls] at h2 a1 ⊢;generalize d.boxes.map af=r1 at*;generalize aA d.gone=r2 at*;generalize y.boxes.map af=r3 at*;generalize aA y.gone=r4 at*;cases ok with
   |true=>simp (maxSteps:=9^9) [ig.l0,d_,ab,setAt,bT,h2,a1,er,hi,hi2,e5,e6]
   |false=>simp (maxSteps:=9^9) [ig.l0,d_,ab,setAt,bT,h2,a1,er,hi,hi2,e5,e6])
  (fun x=>by
   simp only[Mf,M0,LD,LF,List.take_length,aE];simp only[aq,boxes,ints,G9,calls];generalize iS s l=d at*;simp (maxSteps:=9^9) [ig.l0,d_,ab,setAt,bT,er])
 refine au (b:=ig.m) h0 ⟨l.length+1, ?_⟩;simp only[Mf,M0,LD,LF,List.take_zero,iS,Prod.forall] at hr;simp only[aq,a_,boxes,ints,G9,calls] at hr h1 ⊢;generalize iS s l=d at*;generalize s.boxes.map af=r1 at*;generalize aA s.gone=r2 at*;generalize d.1.boxes.map af=r3 at*;generalize aA d.1.gone=r4 at*;have e0:((0:Nat):Int)=0:=rfl;simp only[e0] at hr;simp (maxSteps:=9^9) [ba,ig.m,ig.b,d_,ab,setAt,bT,h1,hr,er]
abbrev j9(k:s6):List T:=[I k.store.eJ,I k.store.time,boxes k.store.boxes,ints k.store.gone,S k.cN,I k.saved]
theorem il.ak(h:il.k M)(a:Int):run M 114 [.c (I a)] []=some (.a [I a,I 0,.sl true 7 [],.sl true 1 []],[]):=by
 refine au (b:=il.m) h ⟨0, ?_⟩;simp (maxSteps:=9^9) [ba,il.m,il.b,d_,ab,setAt,bT,wO]
def pF(ts:List (List UInt8)):List j8:=(ts.filter fun t=>(iu t).2).map fun t=>(iu t).1
theorem A1{ts:List (List UInt8)}{i:Nat}(hi:i<ts.length):pF (ts.take (i+1))=pF (ts.take i)++if(iu ts[i]).2=true then [(iu ts[i]).1] else []:=by
 rw[List.take_succ_eq_append_getElem hi];unfold pF;rw[List.filter_append,cg];congr 1;split
 ·rename_i c;simp[c]
 ·rename_i c;simp[c]
theorem wi(ts:List (List UInt8)):(pF ts).length≤ts.length:=by
 unfold pF;rw[eM];exact bG ..
theorem A0{ts:List (List UInt8)}(h:∀t∈ts,t.length≤1048576):∀c∈pF ts,c.text.length≤1048576:=by
 intro c hc;obtain⟨t,ht,rfl⟩:=List.mem_map.1 hc;have:=h t (List.mem_filter.1 ht).1;have:=zq t;omega
def G8(ts:List (List UInt8))(b:Bool)(i:Nat):Bool:=b&&(ts.take i).all fun t=>(iu t).2
theorem Gk{ts:List (List UInt8)}(b:Bool){i:Nat}(hi:i<ts.length):G8 ts b (i+1)=(G8 ts b i&&(iu ts[i]).2):=by
 unfold G8;rw[List.take_succ_eq_append_getElem hi,List.all_append];simp[Bool.and_assoc]
def LJ(ts:List (List UInt8))(i:Nat)(x:Nat×Nat):List (Nat×Ob):=[(17,⟨x.1,5,true,false,(pF (ts.take i)).map cp⟩)]
def LH(ts:List (List UInt8))(b:Bool)(i:Nat)(x:Nat×Nat):List (Nat×V):=[(6,.c (.row 17 x.1 0 (pF (ts.take i)).length)),(7,.c (.bool (G8 ts b i))),(22,.c (.sl false 1 (l_ ts))),(23,.c (I ts.length)),(24,.c (I i))]
def Mg(ts:List (List UInt8))(b:Bool)(i:Nat)(x:Nat×Nat):St:={t:=LH ts b i x,o:=LJ ts i x,n:=x.2}
def M1(ts:List (List UInt8))(b:Bool)(x:Nat×Nat):St:={t:=LH ts b ts.length x++[(25,.c (.bool false))],o:=LJ ts ts.length x,n:=x.2}
theorem vn(l:List UInt8):∀d a acc,(∀t∈acc,t.length≤l.length)→∀t∈(nT l d a acc).1,t.length≤l.length
 |0,a,acc,h=>h
 |d+1,a,acc,h=>by
  rw[nT];split
  ·refine vn l d _ _ fun t ht=> ?_
   rcases List.mem_append.1 ht with z|z
   ·exact h t z
   ·rw[List.mem_singleton.1 z];rename_i c;unfold recAt at c ⊢;split at c
    ·rename_i q;rw[if_pos q];simp only;have:=q.1;unfold c_ at this ⊢;split at this
     ·rename_i r;rw[if_pos r];simp only[gd,List.length_drop];omega
     ·cases this
    ·cases c
  ·exact h
theorem sf(l:List UInt8):∀t∈(kN l).1,t.length≤l.length:=vn l _ _ _ (by simp)
theorem fG.ak(h:fG.k M)(j:List UInt8)(hj:j.length≤1048576):
  run M 450 [.c (S j)] []=some (.lM [.c (.sl true 5 ((kW j).1.map cp)),.c (.bool (kW j).2)],[]):=by
 obtain⟨h0,kr,kc⟩:=h;have h1:=cT.ak kr j hj;have hle:=p7 j (j.length+1) 0 [] (Nat.zero_le _) (by simp);have htx:=sf j;have hrl:(kN j).1.length≤1048576:=by have:=hle.1;simp only[kN];omega
 have e1:kW j=(pF (kN j).1,G8 (kN j).1 (decide ((kN j).2=j.length)) (kN j).1.length):=by
  unfold kW pF G8;rw[List.take_length]
 rw[e1];have e2:decide (((kN j).2:Int)=(j.length:Int))=decide ((kN j).2=j.length):=by
  by_cases c:(kN j).2=j.length
  ·rw[decide_eq_true c,decide_eq_true (by omega)]
  ·rw[decide_eq_false c,decide_eq_false (by omega)]
 generalize kN j=r at*;obtain⟨ts,e⟩:=r;simp only at h1 htx hrl e2 ⊢;generalize decide (e=j.length)=b at*;obtain⟨g,hr⟩:=kq (f:=cz (run M) (ts.length+1) fG.l0) ts.length (Mg ts b) 0 (M1 ts b)
  (fun i hi x=>by
   have h2:=eT.ak kc ts[i] (by have:=htx _ (ax hi);omega);have e5:=cA (i:=i) (by omega);have hi2:(i:Int)<ts.length:=by omega
   have hc:=wi (ts.take i);rw[gd] at hc;have ha:∀hh:i<(l_ ts).length,(l_ ts)[i]'hh=[S ts[i]]:=fun hh=>CN ts i hh
   have hsl:(l_ ts).length=ts.length:=tC ts;simp only[Mg,LH,LJ,A1 hi,Gk b hi,aE];generalize iu ts[i]=y at*;obtain⟨y,ok⟩:=y;have er:((pF (ts.take i)).map cp).length=(pF (ts.take i)).length:=by simp
   generalize pF (ts.take i)=cs at*;have et:(cs.map cp).take cs.length=cs.map cp:=ab (by omega);have e6:cs.length+1≤4294967296:=by omega
   generalize G8 ts b i=bb at*;cases ok with
   |true=>
    simp only[if_true,cg,bu,bS,aD,bV,dy,cp,Bool.and_true] at h2 er et ⊢;generalize (cs.map fun c:j8=>[I c.kind,I c.box,I c.gid,I c.flags,S c.text])=rc at*;cases bb<;>simp (maxSteps:=9^9) [fG.l0,d_,ab,setAt,bT,h2,ha,hsl,hi,hi2,e5,e6,er,et]
   |false=>
    simp only[aB,if_false,cR,cp,Bool.and_false] at h2 er et ⊢;generalize (cs.map fun c:j8=>[I c.kind,I c.box,I c.gid,I c.flags,S c.text])=rc at*;cases bb<;>simp (maxSteps:=9^9) [fG.l0,d_,ab,setAt,bT,h2,ha,hsl,hi,hi2,e5,e6,er,et])
  (fun x=>by
   simp only[Mg,M1,LH,LJ,aE];have hsl:(l_ ts).length=ts.length:=tC ts;simp (maxSteps:=9^9) [fG.l0,d_,ab,setAt,bT,hsl])
 refine au (b:=fG.m) h0 ⟨ts.length+1, ?_⟩;simp only[Mg,M1,LH,LJ,List.take_zero,List.take_length,Prod.forall] at hr;have hsl:(l_ ts).length=ts.length:=tC ts;have hc0:pF ([]:List (List UInt8))=[]:=rfl;have ha0:G8 ts b 0=b:=by simp[G8]
 have e0:((0:Nat):Int)=0:=rfl;have er:((pF ts).map cp).length=(pF ts).length:=by simp
 rw[hc0,ha0] at hr;have et:((pF ts).map cp).take (pF ts).length=(pF ts).map cp:=ab (by omega);simp only[e0,bS,dy] at hr;generalize (pF ts).map cp=rc at*;generalize G8 ts b ts.length=bb at*;simp (maxSteps:=9^9) [ba,fG.m,fG.b,d_,ab,setAt,bT,h1,hr,hsl,e2,er,et]
theorem iv.ak(h:iv.k M)(k:s6)(hs:gr k.store)(hj:k.cN.length≤1048576):run M 435 [.a (j9 k)] []=some (.c (.bool (xe k)),[]):=by
 obtain⟨h0,ks,kw,kn,ko,kc,kd⟩:=h;have h1:=fG.ak kc k.cN hj;have h2:=aK.ak ko k.store hs;have h3:=bP.ak kw k.saved 0 k.cN.length;have h4:=il.ak kn k.store.eJ;have hw:a8 k.store=true→1≤k.store.eJ∧k.store.eJ≤2:=fun e=>(jK.1 e).eJ
 have hcs:∀c∈(kW k.cN).1,c.text.length≤1048576:=A0 fun t ht=>by have:=sf k.cN t ht;omega
 have hcl:(kW k.cN).1.length≤1048576:=by
  have:=wi (kN k.cN).1;have:=(p7 k.cN (k.cN.length+1) 0 [] (Nat.zero_le _) (by simp)).1;have e:(kW k.cN).1=pF (kN k.cN).1:=rfl;rw[e];have e2:(kN k.cN).1=(nT k.cN (k.cN.length+1) 0 []).1:=rfl;rw[←e2] at this;omega
 refine au (b:=iv.m) h0 ⟨0, ?_⟩;unfold xe;have e3:(decide ((0:Int)≤k.saved)&&decide (k.saved≤(k.cN.length:Int)))=kx 0 k.saved k.cN.length:=rfl;rw[e3] at h3;generalize hcc:kW k.cN=cl at*;obtain⟨cl,cb⟩:=cl;simp only at h1 hcs hcl ⊢;generalize kx 0 k.saved k.cN.length=ib at*;have base:∀b1 b2 b3:Bool,(b1&&b2&&b3)=false→cb=b1→a8 k.store=b2→ib=b3→
   ba (run M) 0 iv.m [.a (j9 k)] []=some (.c (.bool false),[]):=by
  intro b1 b2 b3 hb e1 e2 e4;rw[e1] at h1;rw[e2] at h2;rw[e4] at h3;simp only[j9,aq,boxes,ints] at h2 ⊢;generalize k.store.boxes.map af=r1 at*;generalize aA k.store.gone=r2 at*;generalize cl.map cp=rc at*;cases b1<;>cases b2<;>cases b3<;>first|(cases hb;done)|simp (maxSteps:=9^9) [ba,iv.m,iv.b,d_,ab,setAt,bT,h1,h2,h3]
 by_cases call:(cb&&a8 k.store&&ib)=true
 ·simp only[aj] at call;obtain⟨⟨a1,a2⟩,a3⟩:=call;have h5:=ig.ak kd (new k.store.eJ) (sm (hw a2).1 (hw a2).2) cl (by omega) hcs;have hok:=rT cl (sm (hw a2).1 (hw a2).2);have h6:=gD.ak ks (iS (new k.store.eJ) cl).1 k.store (pj hok).m8 hs;rw[a1] at h1;rw[a2] at h2;rw[a3] at h3;rw[a1,a2,a3];simp only[Bool.true_and];change run M 63 [.a (aq (iS (new k.store.eJ) cl).1),.a (aq k.store)] []=_ at h6;generalize hsb:oh (iS (new k.store.eJ) cl).1 k.store=sb at*;generalize iS (new k.store.eJ) cl=d at*;obtain⟨d,dn⟩:=d;simp only[j9,aq,boxes,ints,new,calls,bS,pq] at h2 h5 h6 ⊢;generalize k.store.boxes.map af=r1 at*;generalize aA k.store.gone=r2 at*;generalize d.boxes.map af=r3 at*;generalize aA d.gone=r4 at*;generalize cl.map cp=rc at*;simp (maxSteps:=9^9) [ba,iv.m,iv.b,d_,ab,setAt,bT,h1,h2,h3,h4,h5,h6]
 ·have cf:(cb&&a8 k.store&&ib)=false:=by simpa using call
  rw[cf,Bool.false_and];exact base cb (a8 k.store) ib cf rfl rfl rfl
def EL(d:a7)(x:Nat×Nat×Nat):List (Nat×Ob):=[(4,⟨x.1,4,true,true,[G9]⟩),(6,⟨x.2.1,4,true,true,[aq d]⟩)]
def EK(l:List j8)(d:a7×Nat)(i:Nat)(x:Nat×Nat×Nat):List (Nat×V):=[(1,.c (calls l)),(4,.c (.ptr 4 x.1 0 0)),(6,.c (.ptr 6 x.2.1 0 0)),(7,.c (I d.2)),(8,.c (I i))]
def Ha(s:a7)(l:List j8)(i:Nat)(x:Nat×Nat×Nat):St:={t:=EK l (iS s (l.take i)) i x,o:=EL (iS s (l.take i)).1 x,n:=x.2.2}
def Jt(s:a7)(l:List j8)(x:Nat×Nat×Nat):St:={t:=EK l (iS s l) l.length x++[(16,.c (.bool false))],o:=EL (iS s l).1 x,n:=x.2.2}
theorem hZ.ak(h:hZ.k M)(s:a7)(hs:a8 s=true)(l:List j8)(hl:l.length≤4294967295)(hc:∀c∈l,c.text.length≤1048576):
  run M 449 [.a (aq s),.c (calls l)] []=some (.lM [.a (aq (iS s l).1),.c (I (iS s l).2)],[]):=by
 obtain⟨h0,kc,kd⟩:=h;have h1:=b5.ak kc s (pj hs).m8;have er:(l.map cp).length=l.length:=by simp
 obtain⟨g,hr⟩:=kq (f:=cz (run M) (l.length+1) hZ.l0) l.length (Ha s l) 0 (Jt s l)
  (fun i hi x=>by
   have hok:a8 (iS s (l.take i)).1=true:=rT _ hs;have h2:=cL.ak kd (iS s (l.take i)).1 (pj hok) l[i] (hc _ (ax hi));have hid:=D3 (iS s (l.take i)).1 l[i];have a1:∀hh,(l.map cp)[i]'hh=cp l[i]:=by intro hh;simp
   have e5:=cA (i:=i) (by omega);have hm:=xE (l.take i) s;rw[gd] at hm;have hi2:(i:Int)<l.length:=by omega
   simp only[Ha,EK,EL,xC s hi,aE];generalize iS s (l.take i)=d at*;obtain⟨d,m⟩:=d;simp only at h2 hm hid ⊢;generalize jS d l[i]=y at*;obtain⟨y,ok⟩:=y;have e6:=cA (i:=m) (by omega);cases ok with
   |true=>
    simp only[aq,boxes,ints,cp,G9,calls] at h2 a1 ⊢;generalize d.boxes.map af=r1 at*;generalize aA d.gone=r2 at*;generalize y.boxes.map af=r3 at*;generalize aA y.gone=r4 at*;simp (maxSteps:=9^9) [hZ.l0,d_,ab,setAt,bT,h2,a1,er,hi,hi2,e5,e6]
   |false=>
    have e7:y=d:=hid rfl;subst e7;simp only[aq,boxes,ints,cp,G9,calls] at h2 a1 ⊢;generalize y.boxes.map af=r1 at*;generalize aA y.gone=r2 at*;simp (maxSteps:=9^9) [hZ.l0,d_,ab,setAt,bT,h2,a1,er,hi,hi2,e5,e6])
  (fun x=>by
   simp only[Ha,Jt,EK,EL,List.take_length,aE];simp only[aq,boxes,ints,G9,calls];generalize iS s l=d at*;simp (maxSteps:=9^9) [hZ.l0,d_,ab,setAt,bT,er])
 refine au (b:=hZ.m) h0 ⟨l.length+1, ?_⟩;simp only[Ha,Jt,EK,EL,List.take_zero,iS,Prod.forall] at hr;simp only[aq,a_,boxes,ints,G9,calls] at hr h1 ⊢;generalize iS s l=d at*;generalize s.boxes.map af=r1 at*;generalize aA s.gone=r2 at*;generalize d.1.boxes.map af=r3 at*;generalize aA d.1.gone=r4 at*;have e0:((0:Nat):Int)=0:=rfl;simp only[e0] at hr;simp (maxSteps:=9^9) [ba,hZ.m,hZ.b,d_,ab,setAt,bT,h1,hr,er]
structure EA where
 i:Nat
 v:Nat
 n:Nat
def Bw(j:List UInt8)(ts:List (List UInt8))(en:Nat)(s:EA):List (Nat×V):=[(0,.c (S j)),(4,.c (.sl false 1 (l_ ts))),(5,.c (I en)),(6,.c (.row 15 s.v 0 (pF (ts.take s.i)).length)),(7,.c (I s.i))]
def Bx(ts:List (List UInt8))(s:EA):List (Nat×Ob):=[(15,⟨s.v,5,true,false,(pF (ts.take s.i)).map cp⟩)]
def ur(j:List UInt8)(ts:List (List UInt8))(en:Nat)(s:EA):St:={t:=Bw j ts en s,o:=Bx ts s,n:=s.n}
def EM(j:List UInt8)(ts:List (List UInt8))(en:Nat)(s:EA):St:={t:=Bw j ts en s++[(19,.c (.bool false))],o:=Bx ts s,n:=s.n}
def Nc(ts:List (List UInt8))(s:EA):Prop:=s.i≤ts.length∧((ts.take s.i).all fun t=>(iu t).2)=true
def Nl(j:List UInt8)(ts:List (List UInt8))(en:Nat)(r:Out×St):Prop:=
 (∃s,r=(.exit 0,EM j ts en s)∧s.i=ts.length∧(ts.all fun t=>(iu t).2)=true)∨
 (∃(cs:List j8) (v n:Nat),(ts.all fun t=>(iu t).2)=false∧r=(.ret,{t:=[(2,.c (.row 15 v 0 cs.length)),(3,.c (.bool false))],o:=[(15,⟨v,5,true,false,cs.map cp⟩)],n:=n}))
theorem HP(kr:ee.k M)(k:Nat)(j:List UInt8)(ts:List (List UInt8))(hts:∀t∈ts,t.length≤1048576)(htl:ts.length≤1048576)(en:Nat)(s:EA)(hs:Nc ts s):
  (∃s',cz (run M) k cu.l0 (ur j ts en s)=some (.normal,ur j ts en s')∧Nc ts s'∧ts.length-s'.i<ts.length-s.i)∨
   (∃r,cz (run M) k cu.l0 (ur j ts en s)=some r∧r.1≠.normal∧Nl j ts en r):=by
 obtain⟨i,v,n⟩:=s;obtain⟨hi,ha⟩:=hs;simp only at hi ha;have sl:(l_ ts).length=ts.length:=by simp[l_]
 by_cases c:i<ts.length
 ·have h1:=ee.ak kr ts[i] (hts _ (ax c));have a1:∀hh,(l_ ts)[i]'hh=[S ts[i]]:=by intro hh;simp[l_]
  have c1:(i:Int)<ts.length:=by omega
  have e5:=cA (i:=i) (by omega);have hm:=wi (ts.take i);rw[gd] at hm;have e6:(pF (ts.take i)).length+1≤4294967296:=by omega
  have er:((pF (ts.take i)).map cp).length=(pF (ts.take i)).length:=by simp
  have et:((pF (ts.take i)).map cp).take (pF (ts.take i)).length=(pF (ts.take i)).map cp:=ab (by simp);cases hq:(iu ts[i]).2 with
  |true=>
   left;have htk:=A1 (ts:=ts) c;rw[if_pos hq] at htk;have hh:∃v' n',cz (run M) k cu.l0 (ur j ts en ⟨i,v,n⟩)=some (.normal,ur j ts en ⟨i+1,v',n'⟩):=by
    rw[hq] at h1;simp only[ur,Bw,Bx,htk,cg,bu,bS,aD,bV,dy];simp only[cp] at h1 er et ⊢;generalize (pF (ts.take i)).map (fun c:j8=>[I c.kind,I c.box,I c.gid,I c.flags,S c.text])=rc at*;generalize (pF (ts.take i)).length=cl at*;generalize l_ ts=rs at*;generalize (iu ts[i]).1=rd at*;simp (maxSteps:=9^9) [cu.l0,d_,ab,setAt,bT,h1,a1,sl,c,c1,e5,e6,er,et]
   obtain⟨v',n',hh⟩:=hh;refine⟨_,hh,⟨c, ?_⟩,by simp only;omega⟩;simp only;rw[List.take_succ_eq_append_getElem c,List.all_append,ha];simp[hq]
  |false=>
   right;have hh:∃n',cz (run M) k cu.l0 (ur j ts en ⟨i,v,n⟩)=some (.ret,{t:=[(2,.c (.row 15 v 0 (pF (ts.take i)).length)),(3,.c (.bool false))],o:=[(15,⟨v,5,true,false,(pF (ts.take i)).map cp⟩)],n:=n'}):=by
    rw[hq] at h1;simp only[ur,Bw,Bx];simp only[cp] at h1 ⊢;generalize (pF (ts.take i)).map (fun c:j8=>[I c.kind,I c.box,I c.gid,I c.flags,S c.text])=rc at*;generalize (pF (ts.take i)).length=cl at*;generalize l_ ts=rs at*;generalize (iu ts[i]).1=rd at*;simp (maxSteps:=9^9) [cu.l0,d_,ab,setAt,bT,h1,a1,sl,c,c1]
   obtain⟨n',hh⟩:=hh;refine⟨_,hh,by simp,.inr ⟨_,_,n', ?_,rfl⟩⟩;rw[List.all_eq_false];exact⟨_,ax c,by simp[hq]⟩
 ·right;have hie:i=ts.length:=by omega
  subst hie;have hh:∃n',cz (run M) k cu.l0 (ur j ts en ⟨ts.length,v,n⟩)=some (.exit 0,EM j ts en ⟨ts.length,v,n'⟩):=by
   simp only[ur,EM,Bw,Bx];generalize l_ ts=rs at*;simp (maxSteps:=9^9) [cu.l0,d_,ab,setAt,bT,sl]
  obtain⟨n',hh⟩:=hh;rw[List.take_length] at ha;exact⟨_,hh,by simp,.inl ⟨_,rfl,rfl,ha⟩⟩
theorem cu.ak(h:cu.k M)(j:List UInt8)(hj:j.length≤1048576):
  ∃cs:List j8,((kW j).2=true→cs=(kW j).1)∧run M 448 [.c (S j)] []=some (.lM [.c (.sl true 5 (cs.map cp)),.c (.bool (kW j).2)],[]):=by
 obtain⟨h0,kr,kc⟩:=h;have h1:=cS.ak kr j hj;have htx:=sf j;have htl:(kN j).1.length≤1048576:=by
  have:=(p7 j (j.length+1) 0 [] (Nat.zero_le _) (by simp)).1;have e2:(kN j).1=(nT j (j.length+1) 0 []).1:=rfl;rw[←e2] at this;omega
 obtain⟨r,hr,hP⟩:=lN (f:=cz (run M) ((kN j).1.length+1) cu.l0) (ur j (kN j).1 (kN j).2) (Nc (kN j).1) (fun s=>(kN j).1.length-s.i) (Nl j (kN j).1 (kN j).2)
  (fun s hs=>HP kc _ j _ (fun t ht=>by have:=htx t ht;omega) htl _ s hs) ((kN j).1.length+1) ⟨0,2000144,2000192⟩ ⟨by simp,by simp⟩ (by simp only;omega)
 have e0:((0:Nat):Int)=0:=rfl;have ec:pF []=[]:=rfl;unfold kW;rcases hP with⟨⟨i,v,n⟩,rfl,hi,hall⟩|⟨cs,v,n,hall,rfl⟩
 ·simp only at hi;subst hi;refine⟨pF (kN j).1,fun _=>rfl,au (b:=cu.m) h0 ⟨(kN j).1.length+1, ?_⟩⟩;have er:((pF (kN j).1).map cp).length=(pF (kN j).1).length:=by simp
  have et:((pF (kN j).1).map cp).take (pF (kN j).1).length=(pF (kN j).1).map cp:=ab (by simp);rw[hall];have eb:(((kN j).2:Int)=(j.length:Int))↔(kN j).2=j.length:=by omega
  simp only[ur,EM,Bw,Bx,e0,List.take_zero,ec,bS,dy,List.take_length] at hr;generalize (kN j).2=en at*;generalize (pF (kN j).1).map cp=rc at*;generalize (pF (kN j).1).length=cl at*;generalize l_ (kN j).1=rs at*;simp (maxSteps:=9^9) [ba,cu.m,cu.b,d_,ab,setAt,bT,h1,hr,er,et,eb]
 ·refine⟨cs, ?_,au (b:=cu.m) h0 ⟨(kN j).1.length+1, ?_⟩⟩
  ·rw[hall,Bool.and_false];intro q;cases q
  have er:(cs.map cp).length=cs.length:=by simp
  have et:(cs.map cp).take cs.length=cs.map cp:=ab (by simp);rw[hall,Bool.and_false];simp only[ur,EM,Bw,Bx,e0,List.take_zero,ec,bS,dy] at hr;generalize (kN j).2=en at*;generalize cs.map cp=rc at*;generalize cs.length=cl at*;generalize l_ (kN j).1=rs at*;simp (maxSteps:=9^9) [ba,cu.m,cu.b,d_,ab,setAt,bT,h1,hr,er,et]
theorem gu.ak(h:gu.k M)(k:s6)(hs:gr k.store)(hj:k.cN.length≤1048576):run M 434 [.a (j9 k)] []=some (.c (.bool (xe k)),[]):=by
 obtain⟨h0,ks,kw,kn,ko,kc,kd⟩:=h;obtain⟨cs,hcs,h1⟩:=cu.ak kc k.cN hj;have h2:=aJ.ak ko k.store hs;have h3:=bE.ak kw k.saved 0 k.cN.length;have h4:=ik.ak kn k.store.eJ;have hw:a8 k.store=true→1≤k.store.eJ∧k.store.eJ≤2:=fun e=>(jK.1 e).eJ
 have hcx:∀c∈(kW k.cN).1,c.text.length≤1048576:=A0 fun t ht=>by have:=sf k.cN t ht;omega
 have hcl:(kW k.cN).1.length≤1048576:=by
  have:=wi (kN k.cN).1;have:=(p7 k.cN (k.cN.length+1) 0 [] (Nat.zero_le _) (by simp)).1;have e:(kW k.cN).1=pF (kN k.cN).1:=rfl;rw[e];have e2:(kN k.cN).1=(nT k.cN (k.cN.length+1) 0 []).1:=rfl;rw[←e2] at this;omega
 refine au (b:=gu.m) h0 ⟨0, ?_⟩;unfold xe;have e3:(decide ((0:Int)≤k.saved)&&decide (k.saved≤(k.cN.length:Int)))=kx 0 k.saved k.cN.length:=rfl;rw[e3] at h3;cases a2:a8 k.store with
 |false=>
  rw[a2] at h2;simp only[Bool.and_false,Bool.false_and];simp only[j9,aq,boxes,ints] at h2 ⊢;generalize k.store.boxes.map af=r1 at*;generalize aA k.store.gone=r2 at*;simp (maxSteps:=9^9) [ba,gu.m,gu.b,d_,ab,setAt,bT,h2]
 |true=>
  rw[a2] at h2;cases a3:kx 0 k.saved k.cN.length with
  |false=>
   rw[a3] at h3;simp only[Bool.and_false,Bool.false_and];simp only[j9,aq,boxes,ints] at h2 ⊢;generalize k.store.boxes.map af=r1 at*;generalize aA k.store.gone=r2 at*;simp (maxSteps:=9^9) [ba,gu.m,gu.b,d_,ab,setAt,bT,h2,h3]
  |true=>
   rw[a3] at h3;cases a1:(kW k.cN).2 with
   |false=>
    rw[a1] at h1;simp only[Bool.false_and];simp only[j9,aq,boxes,ints] at h2 ⊢;generalize k.store.boxes.map af=r1 at*;generalize aA k.store.gone=r2 at*;generalize cs.map cp=rc at*;simp (maxSteps:=9^9) [ba,gu.m,gu.b,d_,ab,setAt,bT,h1,h2,h3]
   |true=>
    rw[a1] at h1;have ecs:=hcs a1;rw[ecs] at h1;clear ecs hcs cs;generalize (kW k.cN).1=cl at*;have h5:=hZ.ak kd (new k.store.eJ) (sm (hw a2).1 (hw a2).2) cl (by omega) hcx;have hok:=rT cl (sm (hw a2).1 (hw a2).2);have h6:=fR.ak ks (iS (new k.store.eJ) cl).1 k.store (pj hok).m8 hs;simp only[Bool.true_and];generalize oh (iS (new k.store.eJ) cl).1 k.store=sb at*;generalize hd:iS (new k.store.eJ) cl=d at*;obtain⟨d,m⟩:=d;simp only[new,j9,aq,boxes,ints,calls,bS,pq] at h2 h5 h6 ⊢;generalize k.store.boxes.map af=r1 at*;generalize aA k.store.gone=r2 at*;generalize d.boxes.map af=r3 at*;generalize aA d.gone=r4 at*;generalize cl.map cp=rc at*;simp (maxSteps:=9^9) [ba,gu.m,gu.b,d_,ab,setAt,bT,h1,h2,h3,h4,h5,h6]
def u7(k:s6):Nat:=iW k.store+k.cN.length
theorem gN.ak(h:gN.k M)(k:s6)(hs:sC k.store)(hj:k.cN.length≤maxLen):run M 48 [.a (j9 k),.c (I 1048576)] []=some (.c (I (if 1048576<u7 k then -1 else 1048576-(u7 k:Int))),[]):=by
 obtain⟨h0,k1⟩:=h;have h1:=gm.ak k1 k.store hs 1048576 (by omega);have hx:maxLen=9223372036854775807:=rfl;refine au (b:=gN.m) h0 ⟨0, ?_⟩;unfold u7;simp only[jJ] at h1;by_cases c:1048576<iW k.store
 ·rw[if_pos c] at h1;rw[if_pos (by omega)];simp only[j9,aq,boxes,ints] at h1 ⊢;generalize k.store.boxes.map af=r1 at*;generalize aA k.store.gone=r2 at*;simp (maxSteps:=9^9) [ba,gN.m,gN.b,d_,ab,setAt,bT,h1]
 ·rw[if_neg c] at h1;have e1:¬(1048576:Int)-iW k.store<0:=by omega
  have e2:IntKind.i64.wrap ((1048576:Int)-iW k.store-k.cN.length)=1048576-(iW k.store:Int)-k.cN.length:=wrap_i64 (by omega) (by omega)
  by_cases c2:1048576<iW k.store+k.cN.length
  ·rw[if_pos c2];have e3:(1048576:Int)-iW k.store-k.cN.length<0:=by omega
   simp only[j9,aq,boxes,ints] at h1 ⊢;generalize k.store.boxes.map af=r1 at*;generalize aA k.store.gone=r2 at*;generalize (iW k.store:Int)=w at*;simp (maxSteps:=9^9) [ba,gN.m,gN.b,d_,ab,setAt,bT,h1,e1,e2,e3]
  ·rw[if_neg c2];have e3:¬(1048576:Int)-iW k.store-k.cN.length<0:=by omega
   have e4:((iW k.store+k.cN.length:Nat):Int)=(iW k.store:Int)+k.cN.length:=by omega
   rw[e4,show (1048576:Int)-((iW k.store:Int)+k.cN.length)=1048576-(iW k.store:Int)-k.cN.length from by omega];simp only[j9,aq,boxes,ints] at h1 ⊢;generalize k.store.boxes.map af=r1 at*;generalize aA k.store.gone=r2 at*;generalize (iW k.store:Int)=w at*;simp (maxSteps:=9^9) [ba,gN.m,gN.b,d_,ab,setAt,bT,h1,e1,e2,e3]
theorem jy.ak(h:jy.k M)(k:s6)(hs:iW k.store≤1048576):
  run M 49 [.a (j9 k)] []=some (.a [I k.store.eJ,I k.store.time,.sl false 7 (k.store.boxes.map af),.sl false 1 (aA k.store.gone),S k.cN,I k.saved],[]):=by
 obtain⟨h0,k1⟩:=h;have h1:=iO.ak k1 k.store hs;refine au (b:=jy.m) h0 ⟨0, ?_⟩;simp only[j9,aq,a_,boxes,ints] at h1 ⊢;generalize k.store.boxes.map af=r1 at*;generalize aA k.store.gone=r2 at*;simp (maxSteps:=9^9) [ba,jy.m,jy.b,d_,ab,setAt,bT,h1]
theorem jA.ak(h:jA.k M)(k:s6)(hs:iW k.store≤1048576):run M 26 [.a (j9 k),.a (j9 k)] []=some (.c (.bool true),[]):=by
 obtain⟨h0,k1⟩:=h;have h1:=iP.ak k1 k.store hs;have h2:=CL k.cN k.cN;refine au (b:=jA.m) h0 ⟨0, ?_⟩;simp only[j9,aq,boxes,ints] at h1 ⊢;generalize k.store.boxes.map af=r1 at*;generalize aA k.store.gone=r2 at*;simp (maxSteps:=9^9) [ba,jA.m,jA.b,d_,ab,setAt,bT,h1,h2]
theorem cH.ak(h:cH.k M)(k:s6)(hs:sC k.store)(hj:k.cN.length≤maxLen):run M 399 [.a (j9 k)] []=some (.c (.bool true),[]):=by
 obtain⟨h0,k1,k2,k3,k4,k5⟩:=h;have h1:=gN.ak k2 k hs hj;refine au (b:=cH.m) h0 ⟨0, ?_⟩;by_cases c:1048576<u7 k
 ·rw[if_pos c] at h1;simp only[j9,boxes,ints] at h1 ⊢;generalize k.store.boxes.map af=r1 at*;generalize aA k.store.gone=r2 at*;simp (maxSteps:=9^9) [ba,cH.m,cH.b,d_,ab,setAt,bT,h1]
 rw[if_neg c] at h1;have hw:iW k.store≤1048576:=by unfold u7 at c;omega
 have hjl:k.cN.length≤1048576:=by unfold u7 at c;omega
 have e1:¬(1048576:Int)-u7 k<0:=by omega
 have hin:=DF hw;have h2:=jy.ak k3 k hw;have h3:=gu.ak k4 k hin hjl;have h4:=iv.ak k5 k hin hjl;have h5:=jA.ak k1 k hw;generalize xe k=x at*;generalize (u7 k:Int)=w at*;simp only[j9,boxes,ints] at h1 h2 h3 h4 h5 ⊢;generalize k.store.boxes.map af=r1 at*;generalize aA k.store.gone=r2 at*;simp (maxSteps:=9^9) [ba,cH.m,cH.b,d_,ab,setAt,bT,h1,h2,h3,h4,h5,e1]
abbrev Ch:List Ct:=[.int .i64,.int .i64,.sl Jn,.sl [.int .i64],.str,.int .i64]
theorem FV{r:List T}(h:rA Ch r):∃x:s6,r=j9 x∧sC x.store∧x.cN.length≤maxLen:=by
 match r,h with
 |[a,b,f,g,j,v],h=>
  obtain⟨x1,rfl⟩:=mF (h.2 0 _ a rfl rfl);obtain⟨x3,rfl⟩:=mF (h.2 1 _ b rfl rfl);obtain⟨x6,rfl,h6,q6⟩:=rN af um (fun r hr=>Io hr) (h.2 2 _ f rfl rfl);obtain⟨x7,rfl,h7,_⟩:=rN (fun n:Int=>[I n]) (fun _=>True) (fun r hr=>by
   match r,hr with
   |[a],hr=>obtain⟨n,rfl⟩:=mF (hr.2 0 _ a rfl rfl);exact⟨n,rfl,trivial⟩) (h.2 3 _ g rfl rfl)
  have h8:=h.2 4 _ j rfl rfl;obtain⟨x9,rfl⟩:=mF (h.2 5 _ v rfl rfl);cases h8 with|str s hs=>
  obtain⟨p,rfl⟩:=Az s;exact⟨⟨⟨x1,x3,x6,x7⟩,p,x9⟩,rfl,⟨h6,h7,q6⟩,by simpa using hs⟩
theorem cH.row(h:cH.k M){as:List V}(ha:zc [.struct Ch] as):run M 399 as []=some (.c (.bool true),[]):=by
 cases ha with|cons h0 ha=>
 cases ha;cases h0 with|struct h0=>
 obtain⟨a,rfl,ha,hj⟩:=FV h0;exact cH.ak h a ha hj
end Mx
