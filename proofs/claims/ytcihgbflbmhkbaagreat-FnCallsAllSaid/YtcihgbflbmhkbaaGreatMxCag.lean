/-
  What more of the functions compute, each by a small evaluation; no condition beyond what each says.
-/
import Derived.Test.YtcihgbflbmhkbaaGreatMxCaf
set_option maxHeartbeats 16000000
set_option linter.unusedSimpArgs false
set_option linter.unusedVariables false
namespace Mx
open Go
attribute [-simp] ct step lK kK nW ou ik
variable {M:Nat→Option Body}
def vR(s t:aT):aT×Bool:=if t.eE=s.eE∨j8 s t=false then(s,false) else(dk s t,true)
def iI(s:aT)(c:jy):aT×Bool:=
 if nK c=false then(s,false) else
 if c.kind=1 then k_ s c.box c.text else if c.kind=2 then jI s c.box c.text else if c.kind=3 then lI s c.box else
 if c.kind=4 then lG s c.box c.gid c.flags c.text else if c.kind=5 then kf s c.box c.gid c.flags else if c.kind=6 then kE s c.box c.gid else
 vR s (gh c.text).1
theorem rh(l:List UInt8):g_ (gh l).1:=by
 cases h:(gh l).2 with
 |true=>exact(ke (yq h).1).lR
 |false=>
  have:(gh l).1=jW:=by
   unfold gh at h ⊢;split
   ·rename_i c;rw[if_pos c] at h;cases h
   ·rfl
  rw[this];exact⟨by simp[jW],by simp[jW],by simp[jW],by simp[jW]⟩
theorem cw.ar(h:cw.k M)(s:aT)(hs:lW s)(c:jy)(hc:c.text.length≤1048576):
  run M 469 [.a (ai s),.a (cR c)] []=some (.ll [.a (ai (iI s c).1),.c (.bool (iI s c).2)],[]):=by
 obtain⟨h0,kco,krs,kcs,kmb,kpm,krb,kdb,kmm,kdm,kfs,kjs⟩:=h;have h1:=aP.ar kco c hc;have h2:=b4.ar kcs s hs.lR;have e1:=cV.ar kmb s hs c.box c.text hc;have e2:=dM.ar krb s hs c.box c.text hc;have e3:=fy.ar kdb s hs c.box;have e4:=eR.ar kpm s hs c.box c.gid c.flags c.text;have e5:=eK.ar kmm s hs c.box c.gid c.flags;have e6:=eM.ar kdm s hs c.box c.gid;have h3:=bF.ar krs c.text hc;have hri:=rh c.text;have h4:=eU.ar kfs s (gh c.text).1 hs.lR hri;refine aB (b:=cw.m) h0 ⟨0, ?_⟩;unfold iI;cases ck:nK c with
 |false=>
  rw[ck] at h1;rw[if_pos rfl];simp only[ai,aW,boxes,ints] at h1 h2 ⊢;generalize s.boxes.map af=rb at*;generalize az s.gone=rs at*;simp (maxSteps:=9^9) [bl,cw.m,cw.b,ab,setAt,h1,h2]
 |true=>
  rw[ck] at h1;rw[if_neg (by simp)];by_cases k1:c.kind=1
  ·rw[if_pos k1];simp only[cR,k1] at h1;generalize k_ s c.box c.text=y at*;obtain⟨y,o⟩:=y;simp only[ai,boxes,ints] at h1 e1 ⊢;generalize y.boxes.map af=yb at*;generalize az y.gone=ys at*;generalize s.boxes.map af=rb at*;generalize az s.gone=rs at*;simp (maxSteps:=9^9) [bl,cw.m,cw.b,ab,setAt,h1,e1,k1]
  rw[if_neg k1];by_cases k2:c.kind=2
  ·rw[if_pos k2];simp only[cR,k2] at h1;generalize jI s c.box c.text=y at*;obtain⟨y,o⟩:=y;simp only[ai,boxes,ints] at h1 e2 ⊢;generalize y.boxes.map af=yb at*;generalize az y.gone=ys at*;generalize s.boxes.map af=rb at*;generalize az s.gone=rs at*;simp (maxSteps:=9^9) [bl,cw.m,cw.b,ab,setAt,h1,e2,k2]
  rw[if_neg k2];by_cases k3:c.kind=3
  ·rw[if_pos k3];simp only[cR,k3] at h1;generalize lI s c.box=y at*;obtain⟨y,o⟩:=y;simp only[ai,boxes,ints] at h1 e3 ⊢;generalize y.boxes.map af=yb at*;generalize az y.gone=ys at*;generalize s.boxes.map af=rb at*;generalize az s.gone=rs at*;simp (maxSteps:=9^9) [bl,cw.m,cw.b,ab,setAt,h1,e3,k3]
  rw[if_neg k3];by_cases k4:c.kind=4
  ·rw[if_pos k4];simp only[cR,k4] at h1;generalize lG s c.box c.gid c.flags c.text=y at*;obtain⟨y,o⟩:=y;simp only[ai,boxes,ints] at h1 e4 ⊢;generalize y.boxes.map af=yb at*;generalize az y.gone=ys at*;generalize s.boxes.map af=rb at*;generalize az s.gone=rs at*;simp (maxSteps:=9^9) [bl,cw.m,cw.b,ab,setAt,h1,e4,k4]
  rw[if_neg k4];by_cases k5:c.kind=5
  ·rw[if_pos k5];simp only[cR,k5] at h1;generalize kf s c.box c.gid c.flags=y at*;obtain⟨y,o⟩:=y;simp only[ai,boxes,ints] at h1 e5 ⊢;generalize y.boxes.map af=yb at*;generalize az y.gone=ys at*;generalize s.boxes.map af=rb at*;generalize az s.gone=rs at*;simp (maxSteps:=9^9) [bl,cw.m,cw.b,ab,setAt,h1,e5,k5]
  rw[if_neg k5];by_cases k6:c.kind=6
  ·rw[if_pos k6];simp only[cR,k6] at h1;generalize kE s c.box c.gid=y at*;obtain⟨y,o⟩:=y;simp only[ai,boxes,ints] at h1 e6 ⊢;generalize y.boxes.map af=yb at*;generalize az y.gone=ys at*;generalize s.boxes.map af=rb at*;generalize az s.gone=rs at*;simp (maxSteps:=9^9) [bl,cw.m,cw.b,ab,setAt,h1,e6,k6]
  rw[if_neg k6];generalize (gh c.text).1=t at*;generalize (gh c.text).2=r2 at*;unfold vR;by_cases w:t.eE=s.eE
  ·rw[if_pos (.inl w)];have w':t.eE=s.eE:=w;simp only[ai,aW,boxes,ints] at h1 h2 h3 ⊢;generalize t.boxes.map af=tb at*;generalize az t.gone=ts at*;generalize s.boxes.map af=rb at*;generalize az s.gone=rs at*;simp (maxSteps:=9^9) [bl,cw.m,cw.b,ab,setAt,h1,h2,h3,k1,k2,k3,k4,k5,k6,w]
  cases ft:j8 s t with
  |false=>
   rw[if_pos (.inr rfl)];rw[ft] at h4;simp only[ai,aW,boxes,ints] at h1 h2 h3 h4 ⊢;generalize t.boxes.map af=tb at*;generalize az t.gone=ts at*;generalize s.boxes.map af=rb at*;generalize az s.gone=rs at*;simp (maxSteps:=9^9) [bl,cw.m,cw.b,ab,setAt,h1,h2,h3,h4,k1,k2,k3,k4,k5,k6,w]
  |true=>
   rw[if_neg (by simp[w])];rw[ft] at h4;unfold j8 at ft;simp only[al] at ft;have h5:=bC.ar kjs s t (eh ft.1.1) (eh ft.1.2);have jw:(dk s t).eE=s.eE:=rfl;have jt:(dk s t).time=Max.max s.time t.time:=rfl;clear ft;generalize dk s t=J at*;simp only[ai,aW,boxes,ints,jw,jt] at h1 h2 h3 h4 h5 ⊢;generalize Max.max s.time t.time=tm at*;generalize J.boxes.map af=jb at*;generalize az J.gone=js at*;generalize t.boxes.map af=tb at*;generalize az t.gone=ts at*;generalize s.boxes.map af=rb at*;generalize az s.gone=rs at*;simp (maxSteps:=9^9) [bl,cw.m,cw.b,ab,setAt,h1,h3,h4,h5,k1,k2,k3,k4,k5,k6,w]
theorem cM.ar(h:cM.k M)(s:aT)(hs:lW s)(c:jy)(hc:c.text.length≤1048576):
  run M 468 [.a (ai s),.a (cR c)] []=some (.ll [.a (ai (iI s c).1),.c (.bool (iI s c).2)],[]):=by
 obtain⟨h0,kco,krs,kcs,kmb,kpm,kmm,kdm,krb,kdb,kfs,kjs⟩:=h;have h1:=aX.ar kco c hc;have h2:=cj.ar kcs s hs.lR;have e1:=bT.ar kmb s hs c.box c.text hc;have e2:=cF.ar krb s hs c.box c.text hc;have e3:=dv.ar kdb s hs c.box;have e4:=dq.ar kpm s hs c.box c.gid c.flags c.text;have e5:=dg.ar kmm s hs c.box c.gid c.flags;have e6:=dh.ar kdm s hs c.box c.gid;have h3:=bh.ar krs c.text hc;have hri:=rh c.text;have h4:=eS.ar kfs s (gh c.text).1 hs.lR hri;refine aB (b:=cM.m) h0 ⟨0, ?_⟩;unfold iI;cases ck:nK c with
 |false=>
  rw[ck] at h1;rw[if_pos rfl];simp only[ai,aW,boxes,ints] at h1 h2 ⊢;generalize s.boxes.map af=rb at*;generalize az s.gone=rs at*;simp (maxSteps:=9^9) [bl,cM.m,cM.b,ab,setAt,h1,h2]
 |true=>
  rw[ck] at h1;rw[if_neg (by simp)];by_cases k1:c.kind=1
  ·rw[if_pos k1];simp only[cR,k1] at h1;generalize k_ s c.box c.text=y at*;obtain⟨y,o⟩:=y;simp only[ai,aW,boxes,ints] at h1 e1 ⊢;generalize y.boxes.map af=yb at*;generalize az y.gone=ys at*;generalize s.boxes.map af=rb at*;generalize az s.gone=rs at*;simp (maxSteps:=9^9) [bl,cM.m,cM.b,ab,setAt,h1,e1,k1]
  rw[if_neg k1];by_cases k2:c.kind=2
  ·rw[if_pos k2];simp only[cR,k2] at h1;generalize jI s c.box c.text=y at*;obtain⟨y,o⟩:=y;simp only[ai,aW,boxes,ints] at h1 e2 ⊢;generalize y.boxes.map af=yb at*;generalize az y.gone=ys at*;generalize s.boxes.map af=rb at*;generalize az s.gone=rs at*;simp (maxSteps:=9^9) [bl,cM.m,cM.b,ab,setAt,h1,e2,k2]
  rw[if_neg k2];by_cases k3:c.kind=3
  ·rw[if_pos k3];simp only[cR,k3] at h1;generalize lI s c.box=y at*;obtain⟨y,o⟩:=y;simp only[ai,aW,boxes,ints] at h1 e3 ⊢;generalize y.boxes.map af=yb at*;generalize az y.gone=ys at*;generalize s.boxes.map af=rb at*;generalize az s.gone=rs at*;simp (maxSteps:=9^9) [bl,cM.m,cM.b,ab,setAt,h1,e3,k3]
  rw[if_neg k3];by_cases k4:c.kind=4
  ·rw[if_pos k4];simp only[cR,k4] at h1;generalize lG s c.box c.gid c.flags c.text=y at*;obtain⟨y,o⟩:=y;simp only[ai,aW,boxes,ints] at h1 e4 ⊢;generalize y.boxes.map af=yb at*;generalize az y.gone=ys at*;generalize s.boxes.map af=rb at*;generalize az s.gone=rs at*;simp (maxSteps:=9^9) [bl,cM.m,cM.b,ab,setAt,h1,e4,k4]
  rw[if_neg k4];by_cases k5:c.kind=5
  ·rw[if_pos k5];simp only[cR,k5] at h1;generalize kf s c.box c.gid c.flags=y at*;obtain⟨y,o⟩:=y;simp only[ai,aW,boxes,ints] at h1 e5 ⊢;generalize y.boxes.map af=yb at*;generalize az y.gone=ys at*;generalize s.boxes.map af=rb at*;generalize az s.gone=rs at*;simp (maxSteps:=9^9) [bl,cM.m,cM.b,ab,setAt,h1,e5,k5]
  rw[if_neg k5];by_cases k6:c.kind=6
  ·rw[if_pos k6];simp only[cR,k6] at h1;generalize kE s c.box c.gid=y at*;obtain⟨y,o⟩:=y;simp only[ai,aW,boxes,ints] at h1 e6 ⊢;generalize y.boxes.map af=yb at*;generalize az y.gone=ys at*;generalize s.boxes.map af=rb at*;generalize az s.gone=rs at*;simp (maxSteps:=9^9) [bl,cM.m,cM.b,ab,setAt,h1,e6,k6]
  rw[if_neg k6];generalize (gh c.text).1=t at*;generalize (gh c.text).2=r2 at*;unfold vR;by_cases w:t.eE=s.eE
  ·rw[if_pos (.inl w)];have w':t.eE=s.eE:=w;simp only[ai,aW,boxes,ints] at h1 h2 h3 ⊢;generalize t.boxes.map af=tb at*;generalize az t.gone=ts at*;generalize s.boxes.map af=rb at*;generalize az s.gone=rs at*;simp (maxSteps:=9^9) [bl,cM.m,cM.b,ab,setAt,h1,h2,h3,k1,k2,k3,k4,k5,k6,w]
  cases ft:j8 s t with
  |false=>
   rw[if_pos (.inr rfl)];rw[ft] at h4;simp only[ai,aW,boxes,ints] at h1 h2 h3 h4 ⊢;generalize t.boxes.map af=tb at*;generalize az t.gone=ts at*;generalize s.boxes.map af=rb at*;generalize az s.gone=rs at*;simp (maxSteps:=9^9) [bl,cM.m,cM.b,ab,setAt,h1,h2,h3,h4,k1,k2,k3,k4,k5,k6,w]
  |true=>
   rw[if_neg (by simp[w])];rw[ft] at h4;unfold j8 at ft;simp only[al] at ft;have h5:=bI.ar kjs s t (eh ft.1.1) (eh ft.1.2);have jw:(dk s t).eE=s.eE:=rfl;have jt:(dk s t).time=Max.max s.time t.time:=rfl;clear ft;generalize dk s t=J at*;simp only[ai,aW,boxes,ints,jw,jt] at h1 h2 h3 h4 h5 ⊢;generalize Max.max s.time t.time=tm at*;generalize J.boxes.map af=jb at*;generalize az J.gone=js at*;generalize t.boxes.map af=tb at*;generalize az t.gone=ts at*;generalize s.boxes.map af=rb at*;generalize az s.gone=rs at*;simp (maxSteps:=9^9) [bl,cM.m,cM.b,ab,setAt,h1,h3,h4,h5,k1,k2,k3,k4,k5,k6,w]
end Mx
namespace Mx
open Go
variable {M:Nat→Option Body}
def uJ(a b:aT):Bool:=decide (a.eE=b.eE)&&decide (a.time=b.time)&&alike a b
theorem fI.ar(h:fI.k M)(a b:aT)(ha:sQ a):run M 421 [.a (ai a),.a (ai b)] []=some (.c (.bool (uJ a b)),[]):=by
 obtain⟨h0,ka⟩:=h;have h1:=cU.ar ka a b ha;refine aB (b:=fI.m) h0 ⟨0, ?_⟩;unfold uJ;generalize alike a b=z at*;simp only[ai,boxes,ints] at h1 ⊢;generalize a.boxes.map af=ra at*;generalize az a.gone=ga at*;generalize b.boxes.map af=rb at*;generalize az b.gone=gb at*;by_cases c1:a.eE=b.eE
 ·by_cases c2:a.time=b.time
  ·simp only[c1,c2] at h1;simp (maxSteps:=9^9) [bl,fI.m,fI.b,aa,h1,c1,c2]
  ·simp (maxSteps:=9^9) [bl,fI.m,fI.b,aa,c1,c2]
 ·simp (maxSteps:=9^9) [bl,fI.m,fI.b,aa,c1]
theorem wT(s:aT):(hO s).1.length≤20004:=by
 unfold hO;split
 ·unfold nJ;split
  ·simp
  ·simp[four];omega
 ·simp
end Mx
namespace Mx
open Go
attribute [-simp] ct step lK kK nW ou ik
variable {M:Nat→Option Body}
def oP:List (List UInt8):=[[105,110,98,111,120],[119,111,114,107],[111,108,100]]
def yu:List (List UInt8):=[[110,101,119],[105,110,98,111,120],[111,116,104,101,114]]
theorem vD{s:List UInt8}(h:s∈oP):s.length≤20004:=by
 have:∀t∈oP,t.length≤5:=by decide
 have:=this s h;omega
theorem AS{s:List UInt8}(h:s∈yu):s.length≤20004:=by
 have:∀t∈yu,t.length≤5:=by decide
 have:=this s h;omega
def Da:List T:=[I 0,I 0,I 0,I 0,S []]
def wN(e:List (Nat×V))(eo:List (Nat×Ob))(R:List (List T))(s:aT)(g b m:Int)(ic:Nat)(q:Int)(n:Nat):St:={t:=([(0,.c (.ptr 0 0 0 0)),(2,.c (I g)),(4,.c (.ptr 4 2000000 0 0)),(6,.c (.ptr 6 2000016 0 0)),(7,.c (I b)),(8,.c (I m))]:List (Nat×V))++e,o:=([iw R ic q,(4,⟨2000000,4,true,true,[ai s]⟩),(6,⟨2000016,5,true,true,[Da]⟩)]:List (Nat×Ob))++eo,n:=n}
def wO(R:List (List T))(c:jy)(ic:Nat)(q:Int)(n:Nat):St:={t:=[(6,.c (.ptr 6 2000016 0 0))],o:=[iw R ic q,(6,⟨2000016,5,true,true,[cR c]⟩)],n:=n}
theorem vP(kt:b9.k M)(kn:fe.k M)(kb:bD.k M)(kx:fU.k M)(kp:dS.k M)(ku:a_.k M){R:List (List T)}(hR:Bytes R)
  (s:aT) (hw:1≤s.eE∧s.eE≤2) (g b m:Int) (i:Nat) (q:Int) (hi:i≤R.length) (n:Nat) (e:List (Nat×V)) (eo:List (Nat×Ob)):
  ∃(c:jy) (i':Nat) (q':Int) (n':Nat),c.text.length≤20004∧i'≤R.length∧ct (run M) 0 bu.tl (wN e eo R s g b m i q n)=some (.ret,wO R c i' q' n'):=by
 obtain⟨k,i1,q1,hk,hi1,h1⟩:=bD.ar kb hR i q hi 12 (by omega) (by omega);simp only[bR] at h1;by_cases c1:b=0∨k=0
 ·obtain⟨x,i2,q2,hx,hi2,h2⟩:=dS.ar kp hR i1 q1 hi1 oP (by decide) (by decide);suffices hh:∃n',ct (run M) 0 bu.tl (wN e eo R s g b m i q n)=some (.ret,wO R ⟨1,g,0,0,x⟩ i2 q2 n') by
   obtain⟨n',hh⟩:=hh;exact⟨_,_,_,n',vD hx,hi2,hh⟩
  simp only[iw,oP,bE,bJ] at h1 h2;simp only[wN,wO,Da,iw,cR,ai,boxes,ints];by_cases c2:b=0
  ·simp (maxSteps:=9^9) [bu.tl,ab,setAt,h1,h2,c2]
  ·have c3:k=0:=c1.resolve_left c2;subst c3;have e0:((0:Nat):Int)=0:=rfl;simp only[e0] at h1;simp (maxSteps:=9^9) [bu.tl,ab,setAt,h1,h2,c2]
 have c2:¬b=0:=fun e=>c1 (.inl e)
 have c3:¬k=0:=fun e=>c1 (.inr e)
 have c3':¬(k:Int)=0:=by omega
 by_cases d1:k<5∨m=0
 ·obtain⟨f,i2,q2,hf,hi2,h2⟩:=bD.ar kb hR i1 q1 hi1 8 (by omega) (by omega);obtain⟨x,i3,q3,hx,hi3,h3⟩:=fU.ar kx hR i2 q2 hi2;suffices hh:∃n',ct (run M) 0 bu.tl (wN e eo R s g b m i q n)=some (.ret,wO R ⟨4,b,g,f,x⟩ i3 q3 n') by
   obtain⟨n',hh⟩:=hh;exact⟨_,_,_,n',by simp only;omega,hi3,hh⟩
  simp only[iw,bR] at h1 h2 h3;simp only[wN,wO,Da,iw,cR,ai,boxes,ints];by_cases d2:k<5
  ·have d2':(k:Int)<5:=by omega
   simp (maxSteps:=9^9) [bu.tl,setAt,h1,h2,h3,c2,c3,d2']
  ·have d2':¬(k:Int)<5:=by omega
   have d3:m=0:=d1.resolve_left d2;simp (maxSteps:=9^9) [bu.tl,setAt,h1,h2,h3,c2,c3,d2',d3]
 have d2:¬k<5:=fun e=>d1 (.inl e)
 have d2':¬(k:Int)<5:=by omega
 have d3:¬m=0:=fun e=>d1 (.inr e)
 by_cases e1:k<8
 ·have e1':(k:Int)<8:=by omega
  obtain⟨f,i2,q2,hf,hi2,h2⟩:=bD.ar kb hR i1 q1 hi1 8 (by omega) (by omega);suffices hh:∃n',ct (run M) 0 bu.tl (wN e eo R s g b m i q n)=some (.ret,wO R ⟨5,b,m,f,[]⟩ i2 q2 n') by
   obtain⟨n',hh⟩:=hh;exact⟨_,_,_,n',by simp,hi2,hh⟩
  simp only[iw,bR] at h1 h2;simp only[wN,wO,Da,iw,cR,ai,boxes,ints];simp (maxSteps:=9^9) [bu.tl,setAt,h1,h2,c2,c3,d2',d3,e1']
 have e1':¬(k:Int)<8:=by omega
 by_cases e2:k=8
 ·subst e2;suffices hh:∃n',ct (run M) 0 bu.tl (wN e eo R s g b m i q n)=some (.ret,wO R ⟨6,b,m,0,[]⟩ i1 q1 n') by
   obtain⟨n',hh⟩:=hh;exact⟨_,_,_,n',by simp,hi1,hh⟩
  simp only[iw,bR] at h1;simp only[wN,wO,Da,iw,cR,ai,boxes,ints];simp (maxSteps:=9^9) [bu.tl,setAt,h1,c2,d3]
 have e2':¬(k:Int)=8:=by omega
 by_cases e3:k=9
 ·subst e3;obtain⟨x,i2,q2,hx,hi2,h2⟩:=dS.ar kp hR i1 q1 hi1 yu (by decide) (by decide);suffices hh:∃n',ct (run M) 0 bu.tl (wN e eo R s g b m i q n)=some (.ret,wO R ⟨2,b,0,0,x⟩ i2 q2 n') by
   obtain⟨n',hh⟩:=hh;exact⟨_,_,_,n',AS hx,hi2,hh⟩
  simp only[iw,yu,bE,bJ,bR] at h1 h2;simp only[wN,wO,Da,iw,cR,ai,boxes,ints];simp (maxSteps:=9^9) [bu.tl,ab,setAt,h1,h2,c2,d3]
 have e3':¬(k:Int)=9:=by omega
 by_cases e4:k=10
 ·subst e4;suffices hh:∃n',ct (run M) 0 bu.tl (wN e eo R s g b m i q n)=some (.ret,wO R ⟨3,b,0,0,[]⟩ i1 q1 n') by
   obtain⟨n',hh⟩:=hh;exact⟨_,_,_,n',by simp,hi1,hh⟩
  simp only[iw,bR] at h1;simp only[wN,wO,Da,iw,cR,ai,boxes,ints];simp (maxSteps:=9^9) [bu.tl,setAt,h1,c2,d3]
 have e4':¬(k:Int)=10:=by omega
 have hw3:IntKind.i64.wrap (3-s.eE)=3-s.eE:=wrap_i64 (by omega) (by omega);have h2:=fe.ar kn (3-s.eE);obtain⟨t,w,i2,q2,ht,hw2,hi2,h3⟩:=a_.ar ku hR i1 q1 hi1 true 0 ⟨3-s.eE,0,[],[]⟩ (Cy (by omega) (by omega) true) 5 700 (by omega) (by omega);have hww:=hw2 rfl (by omega);subst hww;have h4:=b9.ar kt t (ke ht.ok).lR;have l1:=wT t;suffices hh:∃n',ct (run M) 0 bu.tl (wN e eo R s g b m i q n)=some (.ret,wO R ⟨7,0,0,0,(hO t).1⟩ i2 q2 n') by
  obtain⟨n',hh⟩:=hh;exact⟨_,_,_,n',l1,hi2,hh⟩
 generalize hO t=tt at*;obtain⟨tt,ok⟩:=tt;simp only[iw,bR] at h1 h3;simp only[ai,tn,boxes,ints,bJ,mL] at h3 h4;simp only[wN,wO,Da,iw,cR,ai,boxes,ints];generalize t.boxes.map af=tb at*;generalize az t.gone=tg at*;simp (maxSteps:=9^9) [bu.tl,setAt,h1,h2,h3,h4,hw3,c2,c3,d2',d3,e1',e2',e3',e4']
theorem bu.ar(h:bu.k M){R:List (List T)}(hR:Bytes R)(i:Nat)(q:Int)(hi:i≤R.length)(s:aT)(hs:Cm s)(hw:1≤s.eE∧s.eE≤2)(g:Int):
  ∃(c:jy) (i':Nat) (q':Int),c.text.length≤20004∧i'≤R.length∧run M 519 [.c (.ptr 0 0 0 0),.a (ai s),.c (I g)] [iw R i q]=some (.a (cR c),[iw R i' q']):=by
 obtain⟨h0,kt,kn,kb,kx,kp,ku⟩:=h;have er:(s.boxes.map af).length=s.boxes.length:=by simp
 by_cases c1:0<s.boxes.length;rotate_left
 ·obtain⟨c,i1,q1,n1,hc,hi1,h1⟩:=vP kt kn kb kx kp ku hR s hw g 0 0 i q hi 2000128 [(16,.c (.bool false))] [];refine⟨c,i1,q1,hc,hi1,aB (b:=bu.m) h0 ⟨0, ?_⟩⟩;simp only[wN,wO,Da,iw,cR,ai,boxes,ints,List.cons_append,List.nil_append] at h1 ⊢;generalize s.boxes.map af=rb at*;generalize az s.gone=rs at*;simp (maxSteps:=9^9) [bl,bu.m,bu.b,ab,h1,er,c1]
 obtain⟨y,i1,q1,hy,hi1,h1⟩:=bD.ar kb hR i q hi s.boxes.length c1 (by have:=hs.b;omega);have hB:=hs.box _ (ax hy);have a1:∀hh,(s.boxes.map af)[y]'hh=af s.boxes[y]:=by intro hh;simp
 have em:(s.boxes[y].ae.map ah).length=s.boxes[y].ae.length:=by simp
 by_cases c2:0<s.boxes[y].ae.length;rotate_left
 ·obtain⟨c,i2,q2,n2,hc,hi2,h2⟩:=vP kt kn kb kx kp ku hR s hw g s.boxes[y].gid 0 i1 q1 hi1 2000416 [(9,.c (.ptr 9 2000272 0 0)),(31,.c (.bool false))] [(9,⟨2000272,7,true,true,[af s.boxes[y]]⟩)];refine⟨c,i2,q2,hc,hi2,aB (b:=bu.m) h0 ⟨0, ?_⟩⟩;simp only[wN,wO,Da,iw,cR,ai,af,boxes,ae,ints,List.cons_append,List.nil_append] at h1 h2 a1 ⊢;generalize s.boxes.map af=rb at*;generalize az s.gone=rs at*;generalize s.boxes[y].ae.map ah=rm at*;generalize az s.boxes[y].gone=rg at*;simp (maxSteps:=9^9) [bl,bu.m,bu.b,ab,setAt,h1,h2,er,em,hy,a1,c1,c2]
 obtain⟨z,i2,q2,hz,hi2,h2⟩:=bD.ar kb hR i1 q1 hi1 s.boxes[y].ae.length c2 (by have:=hB.m;omega);have a2:∀hh:z<(s.boxes[y].ae.map ah).length,(s.boxes[y].ae.map ah)[z]'hh=ah s.boxes[y].ae[z]:=by intro hh;simp
 obtain⟨c,i3,q3,n3,hc,hi3,h3⟩:=vP kt kn kb kx kp ku hR s hw g s.boxes[y].gid s.boxes[y].ae[z].gid i2 q2 hi2 2000592 [] [];refine⟨c,i3,q3,hc,hi3,aB (b:=bu.m) h0 ⟨0, ?_⟩⟩;simp only[wN,wO,Da,iw,cR,ai,af,ah,boxes,ae,ints,List.cons_append,List.nil_append] at h1 h2 h3 a1 a2 ⊢;generalize s.boxes.map af=rb at*;generalize az s.gone=rs at*;generalize s.boxes[y].ae.map ah=rm at*;generalize az s.boxes[y].gone=rg at*;simp (maxSteps:=9^9) [bl,bu.m,bu.b,ab,setAt,h1,h2,h3,er,em,hy,hz,a1,a2,c1,c2]
theorem Az{s:aT}(h:g_ s):sQ s:=⟨h.b,h.g,fun b hb=>⟨(h.i b hb).m,(h.i b hb).g,(h.i b hb).f⟩⟩
theorem ok_eq{s:aT}(h:bc s=true):sQ s:=Az (ke h).lR
theorem yl(s:aT):uJ s s=true:=by simp[uJ,alike]
theorem wV(h:fI.k M){s:aT}(hs:sQ s):run M 421 [.a (ai s),.a (ai s)] []=some (.c (.bool true),[]):=by
 have:=fI.ar h s s hs
 rwa [yl] at this
end Mx
namespace Mx
open Go
theorem Gr{s:aT}(h:bc s=true):Cm s:=by
 have G:=ie.1 h;exact BB ⟨by have:=G.time;omega,by have:=G.time;omega⟩ G.len (by have:=G.mG;omega) fun b hb=>(G.box b hb).1.Il
theorem Bc{c:jy}(h:nK c=true)(k:¬c.kind=7):1≤c.box∧c.box≤9999:=by
 unfold nK at h;rw[if_neg k] at h;simp only[al,jE,decide_eq_true_eq] at h;omega
theorem Ho{s:aT}(h:bc s=true)(c:jy):bc (iI s c).1=true:=by
 unfold iI;cases ck:nK c with
 |false=>rw[if_pos rfl];exact h
 |true=>
  rw[if_neg (by simp)];split;·exact rN h ..
  split;·exact si h ..
  split
  ·rename_i k;exact rT h (Bc ck (by omega))
  split;·exact vC h ..
  split;·exact tY h ..
  split;·exact qu h ..
  unfold vR;split
  ·exact h
  ·rename_i q;have:j8 s (gh c.text).1=true:=by
    cases z:j8 s (gh c.text).1 with
    |true=>rfl
    |false=>exact(q (.inr z)).elim
   unfold j8 at this;simp only[al] at this;exact this.2
theorem E3(s:aT)(c:jy):(iI s c).1.eE=s.eE:=by
 have hst:∀(i:Nat) (b:bz),(stamped s i b).1.eE=s.eE:=by
  intro i b;unfold stamped;split<;>rfl
 have hat:∀(g:Int) (f:Nat→bz→aT×Bool),(∀i b,(f i b).1.eE=s.eE)→(at_ s g f).1.eE=s.eE:=by
  intro g f hf;unfold at_;split
  ·rfl
  ·split
   ·rfl
   ·exact hf _ _
 unfold iI;split;·rfl
 split
 ·unfold k_;split
  ·split<;>rfl
  ·rfl
 split
 ·unfold jI;split
  ·exact hat _ _ fun i b=>hst _ _
  ·rfl
 split
 ·unfold lI;split
  ·exact hat _ _ fun i b=>rfl
  ·rfl
 split
 ·unfold lG;split
  ·refine hat _ _ fun i b=> ?_
   split
   ·exact hst _ _
   ·rfl
  ·rfl
 split
 ·unfold kf;split
  ·refine hat _ _ fun i b=> ?_
   split
   ·exact hst _ _
   ·rfl
  ·rfl
 split
 ·unfold kE;split
  ·refine hat _ _ fun i b=> ?_
   split<;>rfl
  ·rfl
 unfold vR;split<;>rfl
def gr:aT→List jy→aT×Nat
 |s,[]=>(s,0)
 |s,c::l=>((gr (iI s c).1 l).1,(if(iI s c).2 then 1 else 0)+(gr (iI s c).1 l).2)
theorem pT(c:jy):∀(l:List jy) (s:aT),gr s (l++[c])=((iI (gr s l).1 c).1,(gr s l).2+if(iI (gr s l).1 c).2 then 1 else 0)
 |[],s=>by simp only[List.nil_append,gr,Nat.zero_add,Nat.add_zero];rfl
 |d::l,s=>by
  rw[List.cons_append,gr,pT c l,gr];simp only[Nat.add_assoc]
theorem wk{l:List jy}(s:aT){i:Nat}(hi:i<l.length):gr s (l.take (i+1))=((iI (gr s (l.take i)).1 l[i]).1,(gr s (l.take i)).2+if(iI (gr s (l.take i)).1 l[i]).2 then 1 else 0):=by
 rw[List.take_succ_eq_append_getElem hi,pT]
theorem qv:∀(l:List jy) {s:aT},bc s=true→bc (gr s l).1=true
 |[],_,h=>h
 |c::l,_,h=>qv l (Ho h c)
theorem xS:∀(l:List jy) (s:aT),(gr s l).1.eE=s.eE
 |[],_=>rfl
 |c::l,s=>(xS l _).trans (E3 s c)
theorem sH:∀(l:List jy) (s:aT),(gr s l).2≤l.length
 |[],_=>Nat.le_refl _
 |c::l,s=>by
  have:=sH l (iI s c).1;simp only[gr,b7];split<;>omega
def new(w:Int):aT:=⟨w,0,[],[]⟩
theorem s_{w:Int}(h1:1≤w)(h2:w≤2):bc ⟨w,0,[],[]⟩=true:=(uX h1 h2).ok
theorem A5{w g:Int}(h1:1≤w)(h2:w≤2)(hg:1≤g∧g≤9999){x:List UInt8}(hx:x∈oP):(iI ⟨w,0,[],[]⟩ ⟨1,g,0,0,x⟩).2=true:=by
 have hn:mh x=true:=by
  have:∀t∈oP,mh t=true:=by decide
  exact this x hx
 have hc:nK ⟨1,g,0,0,x⟩=true:=by
  simp[nK,jE,sY,hn,hg.1,hg.2]
 unfold iI;rw[if_neg (by rw[hc];simp),if_pos rfl];have hs:=s_ h1 h2;have G:=ie.1 hs;have hk:nC ⟨w,0,[],[]⟩ g=false:=by
  cases c:nC ⟨w,0,[],[]⟩ g with
  |false=>rfl
  |true=>have:=CW.1 c;simp[Kn] at this
 have hnm:(named (⟨w,0,[],[]⟩:aT).boxes x).isSome=false:=rfl;have hb:(fS ⟨w,0,[],[]⟩ g x).boxes=[jB ⟨w,0,[],[]⟩ g x]:=by simp[fS]
 have hok:bc (fS ⟨w,0,[],[]⟩ g x)=true:=by
  refine ie.2 ⟨G.eE,⟨by simp only[fS];omega,by simp only[fS];omega⟩,by rw[hb];simp,G.gone,G.vY,G.mG, ?_,by rw[hb];exact List.pairwise_singleton ..,by rw[hb];exact List.pairwise_singleton ..,by rw[hb];simp[b5,jB]⟩;rw[hb];intro b hbm;rw[List.mem_singleton.1 hbm];refine⟨⟨hg,hn,by simp[j2,jE,jB];omega,by simp[jB],by simp[jB],List.Pairwise.nil,by simp[jB],by simp[jB],by simp[jB],List.Pairwise.nil,List.Pairwise.nil⟩,by simp[fS], ?_⟩;simp[late,jB,fS]
 unfold k_;rw[if_pos ⟨hs,hk,hnm⟩,if_pos hok]
end Mx
namespace Mx
open Go
attribute [-simp] ct step lK kK nW ou ik
variable {M:Nat→Option Body}
def KL:List T:=[I 0,I 0,.aN 7,.aN 1]
abbrev calls(l:List jy):T:= .sl false 5 (l.map cR)
def KA(d:aT)(x:Nat×Nat×Nat):List (Nat×Ob):=[(4,⟨x.1,4,true,true,[KL]⟩),(6,⟨x.2.1,4,true,true,[ai d]⟩)]
def Kz(l:List jy)(d:aT×Nat)(i:Nat)(x:Nat×Nat×Nat):List (Nat×V):=[(4,.c (.ptr 4 x.1 0 0)),(6,.c (.ptr 6 x.2.1 0 0)),(7,.c (I d.2)),(14,.c (calls l)),(15,.c (I l.length)),(16,.c (I i))]
def K_(s:aT)(l:List jy)(i:Nat)(x:Nat×Nat×Nat):St:={t:=Kz l (gr s (l.take i)) i x,o:=KA (gr s (l.take i)).1 x,n:=x.2.2}
def L2(s:aT)(l:List jy)(x:Nat×Nat×Nat):St:={t:=Kz l (gr s l) l.length x++[(17,.c (.bool false))],o:=KA (gr s l).1 x,n:=x.2.2}
theorem gN.ar(h:gN.k M)(s:aT)(hs:bc s=true)(l:List jy)(hl:l.length≤4294967295)(hc:∀c∈l,c.text.length≤1048576):
  run M 451 [.a (ai s),.c (calls l)] []=some (.ll [.a (ai (gr s l).1),.c (I (gr s l).2)],[]):=by
 obtain⟨h0,kc,kd⟩:=h;have h1:=b4.ar kc s (ke hs).lR;have er:(l.map cR).length=l.length:=by simp
 obtain⟨g,hr⟩:=ju (f:=ct (run M) (l.length+1) gN.l0) l.length (K_ s l) 0 (L2 s l)
  (fun i hi x=>by
   have hok:bc (gr s (l.take i)).1=true:=qv _ hs;have h2:=cw.ar kd (gr s (l.take i)).1 (ke hok) l[i] (hc _ (ax hi));have a1:∀hh,(l.map cR)[i]'hh=cR l[i]:=by intro hh;simp
   have e5:=cA (i:=i) (by omega);have hm:=sH (l.take i) s;rw[hZ] at hm;have hi2:(i:Int)<l.length:=by omega
   simp only[K_,Kz,KA,wk s hi,aE];generalize gr s (l.take i)=d at*;obtain⟨d,m⟩:=d;simp only at h2 hm ⊢;generalize iI d l[i]=y at*;obtain⟨y,ok⟩:=y;have e6:=cA (i:=m) (by omega);simp only[ai,boxes,ints,cR,KL,calls] at h2 a1 ⊢;generalize d.boxes.map af=r1 at*;generalize az d.gone=r2 at*;generalize y.boxes.map af=r3 at*;generalize az y.gone=r4 at*;cases ok with
   |true=>simp (maxSteps:=9^9) [gN.l0,iz,ab,setAt,eN,h2,a1,er,hi,hi2,e5,e6]
   |false=>simp (maxSteps:=9^9) [gN.l0,iz,ab,setAt,eN,h2,a1,er,hi,hi2,e5,e6])
  (fun x=>by
   simp only[K_,L2,Kz,KA,List.take_length,aE];simp only[ai,boxes,ints,KL,calls];generalize gr s l=d at*;simp (maxSteps:=9^9) [gN.l0,iz,ab,setAt,eN,er])
 refine aB (b:=gN.m) h0 ⟨l.length+1, ?_⟩;simp only[K_,L2,Kz,KA,List.take_zero,gr,Prod.forall] at hr;simp only[ai,aW,boxes,ints,KL,calls] at hr h1 ⊢;generalize gr s l=d at*;generalize s.boxes.map af=r1 at*;generalize az s.gone=r2 at*;generalize d.1.boxes.map af=r3 at*;generalize az d.1.gone=r4 at*;have e0:((0:Nat):Int)=0:=rfl;simp only[e0] at hr;simp (maxSteps:=9^9) [bl,gN.m,gN.b,iz,ab,setAt,eN,h1,hr,er]
theorem CV(kb:bD.k M)(kp:dS.k M){R:List (List T)}(hR:Bytes R)
  (s:aT) (g m:Int) (i:Nat) (q:Int) (hi:i≤R.length) (n:Nat) (e:List (Nat×V)) (eo:List (Nat×Ob)):
  ∃(x:List UInt8) (i':Nat) (q':Int) (n':Nat),x∈oP∧i'≤R.length∧ct (run M) 0 bu.tl (wN e eo R s g 0 m i q n)=some (.ret,wO R ⟨1,g,0,0,x⟩ i' q' n'):=by
 obtain⟨k,i1,q1,hk,hi1,h1⟩:=bD.ar kb hR i q hi 12 (by omega) (by omega);simp only[bR] at h1;obtain⟨x,i2,q2,hx,hi2,h2⟩:=dS.ar kp hR i1 q1 hi1 oP (by decide) (by decide);suffices hh:∃n',ct (run M) 0 bu.tl (wN e eo R s g 0 m i q n)=some (.ret,wO R ⟨1,g,0,0,x⟩ i2 q2 n') by
  obtain⟨n',hh⟩:=hh;exact⟨_,_,_,n',hx,hi2,hh⟩
 simp only[iw,oP,bE,bJ] at h1 h2;simp only[wN,wO,Da,iw,cR,ai,boxes,ints];simp (maxSteps:=9^9) [bu.tl,iz,ab,setAt,eN,h1,h2]
theorem bu.first(h:bu.k M){R:List (List T)}(hR:Bytes R)(i:Nat)(q:Int)(hi:i≤R.length)(s:aT)(hs:s.boxes=[])(g:Int):
  ∃(x:List UInt8) (i':Nat) (q':Int),x∈oP∧i'≤R.length∧run M 519 [.c (.ptr 0 0 0 0),.a (ai s),.c (I g)] [iw R i q]=some (.a (cR ⟨1,g,0,0,x⟩),[iw R i' q']):=by
 obtain⟨h0,kt,kn,kb,kx,kp,ku⟩:=h;have er:(s.boxes.map af).length=0:=by simp[hs]
 obtain⟨x,i1,q1,n1,hc,hi1,h1⟩:=CV kb kp hR s g 0 i q hi 2000128 [(16,.c (.bool false))] [];refine⟨x,i1,q1,hc,hi1,aB (b:=bu.m) h0 ⟨0, ?_⟩⟩;simp only[wN,wO,Da,iw,cR,ai,boxes,ints,List.cons_append,List.nil_append] at h1 ⊢;generalize s.boxes.map af=rb at*;generalize az s.gone=rs at*;simp (maxSteps:=9^9) [bl,bu.m,bu.b,iz,ab,setAt,eN,h1,er]
structure JU where
 cs:List jy
 i:Nat
 ic:Nat
 q:Int
 v:Nat
 v5:Nat
 n:Nat
def Ke(R:List (List T))(w:Int)(s:JU):List (Nat×Ob):=[iw R s.ic s.q,(5,⟨s.v5,4,true,true,[ai (gr (new w) s.cs).1]⟩),(11,⟨s.v,5,true,false,s.cs.map cR⟩)]
def Kd(w:Int)(s:JU):List (Nat×V):=[(0,.c (.ptr 0 0 0 0)),(1,.c (I w)),(5,.c (.ptr 5 s.v5 0 0)),(6,.c (.row 11 s.v 0 s.i)),(7,.c (I s.i))]
def FN(R:List (List T))(w:Int)(s:JU):St:={t:=Kd w s,o:=Ke R w s,n:=s.n}
def Kf(R:List (List T))(w:Int)(s:JU):St:={t:=Kd w s++[(16,.c (.bool false))],o:=Ke R w s,n:=s.n}
structure KH (R:List (List T)) (w:Int) (s:JU):Prop where
 i:s.i≤10
 l:s.cs.length=s.i
 c:s.ic≤R.length
 x:∀c∈s.cs,c.text.length≤20004
 one:0<s.i→0<(gr (new w) s.cs).2
theorem GJ(kb:bD.k M)(kd:cM.k M)(kc:bu.k M){R:List (List T)}(hR:Bytes R){w:Int}(hw:1≤w∧w≤2)(k:Nat)(s:JU)(hs:KH R w s):
  (∃s',ct (run M) k de.l0 (FN R w s)=some (.normal,FN R w s')∧KH R w s'∧10-s'.i<10-s.i)∨
   (∃r,ct (run M) k de.l0 (FN R w s)=some r∧r.1≠.normal∧∃s',r=(.exit 0,Kf R w s')∧0<s'.i∧KH R w s'):=by
 obtain⟨cs,i,ic,q,v,v5,n⟩:=s;obtain⟨hi,hl,hic,hx,h1⟩:=hs;simp only at hi hl hic hx h1;have hok:bc (gr (new w) cs).1=true:=qv _ (s_ hw.1 hw.2);have hwho:(gr (new w) cs).1.eE=w:=xS cs _;obtain⟨z,ic1,q1,hz,hic1,g1⟩:=bD.ar kb hR ic q hic 10 (by omega) (by omega);have e1:IntKind.i64.wrap (1+(z:Int))=1+(z:Int):=wrap_i64 (by omega) (by omega);by_cases c0:i<1+z
 ·left;have e2:IntKind.i64.wrap (100*w)=100*w:=wrap_i64 (by omega) (by omega);have e3:IntKind.i64.wrap (100*w+(i:Int))=100*w+(i:Int):=wrap_i64 (by omega) (by omega);have e4:=cA (i:=i) (by omega);have c1:(i:Int)<1+(z:Int):=by omega
  have hcall:∃(c:jy) (ic2:Nat) (q2:Int),c.text.length≤20004∧ic2≤R.length∧(0<(gr (new w) (cs++[c])).2)∧
    run M 519 [.c (.ptr 0 0 0 0),.a (ai (gr (new w) cs).1),.c (I (100*w+(i:Int)))] [iw R ic1 q1]=some (.a (cR c),[iw R ic2 q2]):=by
   by_cases z0:i=0
   ·subst z0;have hcs:cs=[]:=aZ hl;subst hcs;obtain⟨x,i',q',hx1,hi',hr⟩:=bu.first kc hR ic1 q1 hic1 (gr (new w) []).1 rfl (100*w+((0:Nat):Int));refine⟨_,i',q',vD hx1,hi', ?_,hr⟩;have:=A5 hw.1 hw.2 (g:=100*w+((0:Nat):Int)) (by omega) hx1;simp only[List.nil_append,gr,new];rw[this];simp
   ·obtain⟨c,i',q',hc,hi',hr⟩:=bu.ar kc hR ic1 q1 hic1 (gr (new w) cs).1 (Gr hok) (by rw[hwho];exact hw) (100*w+(i:Int));refine⟨c,i',q',hc,hi', ?_,hr⟩;have:=h1 (by omega);rw[pT];simp only;omega
  obtain⟨c,ic2,q2,hc,hic2,hone,g2⟩:=hcall;have g3:=cM.ar kd (gr (new w) cs).1 (ke hok) c (by omega);have hh:∃v' n',ct (run M) k de.l0 (FN R w ⟨cs,i,ic,q,v,v5,n⟩)=some (.normal,FN R w ⟨cs++[c],i+1,ic2,q2,v',v5,n'⟩):=by
   simp only[FN,Kd,Ke,pT,cH,bE,bJ];simp only[bR] at g1;have er:(cs.map cR).length=i:=by simp[hl]
   have et:(cs.map cR).take i=cs.map cR:=ab (by omega);have e5:i+1≤4294967296:=by omega
   generalize gr (new w) cs=d at*;obtain⟨d,m⟩:=d;simp only at g2 g3 ⊢;generalize iI d c=y at*;obtain⟨y,ok⟩:=y;simp only[ai,boxes,ints,cR,iw] at g1 g2 g3 et er ⊢;generalize d.boxes.map af=r1 at*;generalize az d.gone=r2 at*;generalize y.boxes.map af=r3 at*;generalize az y.gone=r4 at*;generalize (cs.map fun c:jy=>[I c.kind,I c.box,I c.gid,I c.flags,S c.text])=rc at*;simp (maxSteps:=9^9) [de.l0,iz,ab,setAt,eN,g1,g2,g3,e1,e2,e3,e4,e5,c1,er,et]
  obtain⟨v',n',hh⟩:=hh;refine⟨_,hh,⟨by simp only;omega,by simp[hl],hic2,fun d hd=> ?_,fun _=>hone⟩,by simp only;omega⟩;rcases List.mem_append.1 hd with y|y
  ·exact hx d y
  ·rw[List.mem_singleton.1 y];exact hc
 ·right;have c1:¬(i:Int)<1+(z:Int):=by omega
  have hh:∃n',ct (run M) k de.l0 (FN R w ⟨cs,i,ic,q,v,v5,n⟩)=some (.exit 0,Kf R w ⟨cs,i,ic1,q1,v,v5,n'⟩):=by
   simp only[FN,Kf,Kd,Ke];simp only[bR] at g1;simp only[iw] at g1 ⊢;simp (maxSteps:=9^9) [de.l0,iz,ab,setAt,eN,g1,e1,c1]
  obtain⟨n',hh⟩:=hh;exact⟨_,hh,by simp,_,rfl,by simp only;omega,⟨hi,hl,hic1,hx,h1⟩⟩
theorem de.ar(h:de.k M){R:List (List T)}(hR:Bytes R)(i:Nat)(q:Int)(hi:i≤R.length){w:Int}(hw:1≤w∧w≤2):
  ∃(cs:List jy) (i':Nat) (q':Int),cs.length≤10∧(∀c∈cs,c.text.length≤20004)∧0<(gr (new w) cs).2∧i'≤R.length∧
   run M 516 [.c (.ptr 0 0 0 0),.c (I w)] [iw R i q]=some (.c (.sl true 5 (cs.map cR)),[iw R i' q']):=by
 obtain⟨h0,kn,kb,kd,kc⟩:=h;have h1:=fe.ar kn w;obtain⟨r,hr,⟨⟨cs,j,ic,q1,v,v5,n⟩,rfl,hj,hI⟩⟩:=kq (f:=ct (run M) 11 de.l0) (FN R w) (KH R w) (fun s=>10-s.i) (fun r=>∃s',r=(.exit 0,Kf R w s')∧0<s'.i∧KH R w s')
  (fun s hs=>GJ kb kd kc hR hw 11 s hs) 11 ⟨[],0,i,q,2000080,2000048,2000128⟩ ⟨by simp,rfl,hi,fun _ h=>absurd h (by simp),fun h=>absurd h (by simp)⟩ (by simp)
 obtain⟨h2,h3,h4,h5,h6⟩:=hI;simp only at hj h2 h3 h4 h5 h6;refine⟨cs,ic,q1,by omega,h5,h6 hj,h4,aB (b:=de.m) h0 ⟨11, ?_⟩⟩;simp only[FN,Kf,Kd,Ke,bJ,gr] at hr;have er:(cs.map cR).length=j:=by simp[h3]
 have et:(cs.map cR).take j=cs.map cR:=ab (by omega);have e0:((0:Nat):Int)=0:=rfl;simp only[e0,ai,boxes,ints,new,bJ,mL,iw] at hr ⊢;generalize (gr ⟨w,0,[],[]⟩ cs)=d at*;generalize d.1.boxes.map af=r1 at*;generalize az d.1.gone=r2 at*;generalize cs.map cR=rc at*;simp (maxSteps:=9^9) [bl,de.m,de.b,iz,ab,setAt,eN,h1,hr,er,et]
theorem gk.ar(h:gk.k M){R:List (List T)}(hR:Bytes R):
  ∃(w:Int) (cs:List jy),(1≤w∧w≤2)∧cs.length≤10∧(∀c∈cs,c.text.length≤20004)∧0<(gr (new w) cs).2∧
   run M 508 [.c (.sl false 1 R)] []=some (.ll [.a (ai (new w)),.c (.sl true 5 (cs.map cR))],[]):=by
 obtain⟨h0,kn,k1,kb,kc⟩:=h;obtain⟨q0,h1⟩:=fK.ar k1 hR;obtain⟨z,i1,q1,hz,hi1,h2⟩:=bD.ar kb hR 0 q0 (Nat.zero_le _) 2 (by omega) (by omega);obtain⟨w,hwz⟩:∃w:Int,w=1+(z:Int):=⟨_,rfl⟩
 have e1:IntKind.i64.wrap (1+(z:Int))=w:=by rw[hwz];exact wrap_i64 (by omega) (by omega)
 have hw:1≤w∧w≤2:=by omega
 have h3:=fe.ar kn w;obtain⟨cs,i2,q2,hl,hx,hone,hi2,h4⟩:=de.ar kc hR i1 q1 hi1 hw;refine⟨_,cs,hw,hl,hx,hone,aB (b:=gk.m) h0 ⟨0, ?_⟩⟩;have e0:((0:Nat):Int)=0:=rfl;have er:(cs.map cR).length=cs.length:=by simp
 simp only[iw,e0,bR,ai,boxes,ints,new,bJ,mL] at h1 h2 h3 h4 ⊢;generalize cs.map cR=rc at*;simp (maxSteps:=9^9) [bl,gk.m,gk.b,iz,ab,setAt,eN,h1,h2,h3,h4,e1,er,ab]
def KD(d:aT)(x:Nat×Nat×Nat):List (Nat×Ob):=[(5,⟨x.1,4,true,true,[ai d]⟩)]
def KB(cs:List jy)(n m:Nat)(i:Nat)(x:Nat×Nat×Nat):List (Nat×V):=[(4,.c (calls cs)),(5,.c (.ptr 5 x.1 0 0)),(6,.c (I n)),(7,.c (.ptr 7 x.2.1 0 0)),(8,.c (I m)),(9,.c (I i))]
def KC(d:aT)(n:Nat)(s:aT)(cs:List jy)(i:Nat)(x:Nat×Nat×Nat):St:={t:=KB cs n (gr s (cs.take i)).2 i x,o:=KD d x++[(7,⟨x.2.1,4,true,true,[ai (gr s (cs.take i)).1]⟩)],n:=x.2.2}
def Lc(d:aT)(n:Nat)(s:aT)(cs:List jy)(x:Nat×Nat×Nat):St:={t:=KB cs n (gr s cs).2 cs.length x++[(29,.c (.bool false))],o:=KD d x++[(7,⟨x.2.1,4,true,true,[ai (gr s cs).1]⟩)],n:=x.2.2}
theorem bY.loop(kd:cw.k M)(k:Nat)(d:aT)(n:Nat)(s:aT)(hs:bc s=true)(cs:List jy)(hl:cs.length≤10)(hc:∀c∈cs,c.text.length≤20004):
  ∃g:(Nat×Nat×Nat)→Nat×Nat×Nat,∀x,eG (ct (run M) k bY.l0) (cs.length+1) (KC d n s cs 0 x)=some (.exit 0,Lc d n s cs (g x)):=by
 have er:(cs.map cR).length=cs.length:=by simp
 refine ju (f:=ct (run M) k bY.l0) cs.length (KC d n s cs) 0 (Lc d n s cs) (fun i hi x=> ?_) (fun x=> ?_)
 ·have hok:bc (gr s (cs.take i)).1=true:=qv _ hs;have h2:=cw.ar kd (gr s (cs.take i)).1 (ke hok) cs[i] (by have:=hc _ (ax hi);omega);have a1:∀hh,(cs.map cR)[i]'hh=cR cs[i]:=by intro hh;simp
  have e5:=cA (i:=i) (by omega);have hm:=sH (cs.take i) s;rw[hZ] at hm;have hi2:(i:Int)<cs.length:=by omega
  simp only[KC,KB,KD,wk s hi,aE];generalize gr s (cs.take i)=e at*;obtain⟨e,m⟩:=e;simp only at h2 hm ⊢;generalize iI e cs[i]=y at*;obtain⟨y,ok⟩:=y;have e6:=cA (i:=m) (by omega);simp only[ai,boxes,ints,cR,calls] at h2 a1 ⊢;generalize d.boxes.map af=r5 at*;generalize az d.gone=r6 at*;generalize e.boxes.map af=r1 at*;generalize az e.gone=r2 at*;generalize y.boxes.map af=r3 at*;generalize az y.gone=r4 at*;cases ok with
  |true=>simp (maxSteps:=9^9) [bY.l0,iz,ab,setAt,eN,h2,a1,er,hi,hi2,e5,e6]
  |false=>simp (maxSteps:=9^9) [bY.l0,iz,ab,setAt,eN,h2,a1,er,hi,hi2,e5,e6]
 ·simp only[KC,Lc,KB,KD,List.take_length,aE];simp only[ai,boxes,ints,calls];generalize gr s cs=e at*;simp (maxSteps:=9^9) [bY.l0,iz,ab,setAt,eN,er]
theorem bY.ar(h:bY.k M)(R:List (List T))(hl:R.length≤9223372036854775807)(hr:∀(i:Nat) (r:List T),R[i]? =some r→∃n:Int,r=[.int .u8 n]):
  run M 501 [.c (.sl false 1 R)] []=some (.c (.bool true),[]):=by
 obtain⟨h0,kbig,kok,ksa,kda,kdc,kdr⟩:=h;have hbig:=ky.ar kbig R hl;by_cases cb:1048576<R.length
 ·refine aB (b:=bY.m) h0 ⟨0, ?_⟩;rw[decide_eq_true cb] at hbig;simp (maxSteps:=9^9) [bl,bY.m,bY.b,iz,ab,setAt,eN,hbig]
 rw[decide_eq_false cb] at hbig;have hR:Bytes R:=⟨by omega,hr⟩;obtain⟨w,cs,hw,hn,hx,hone,h1⟩:=gk.ar kdr hR;have hs:bc (new w)=true:=s_ hw.1 hw.2;have h2:=gN.ar kda (new w) hs cs (by omega) (fun c hc=>by have:=hx c hc;omega);have hok:bc (gr (new w) cs).1=true:=qv cs hs;have h3:=wV ksa (ok_eq hok);have h4:=aJ.ar kok (gr (new w) cs).1 (ke hok).lR;rw[hok] at h4;obtain⟨g,hg⟩:=bY.loop kdc (cs.length+1) (gr (new w) cs).1 (gr (new w) cs).2 (new w) hs cs hn hx;refine aB (b:=bY.m) h0 ⟨cs.length+1, ?_⟩;have hle:=sH cs (new w);simp only[KC,Lc,KB,KD,List.take_zero,gr,Prod.forall,List.cons_append,List.nil_append] at hg;have e0:((0:Nat):Int)=0:=rfl;have er:(cs.map cR).length=cs.length:=by simp
 have hone2:(0:Int)<(gr (new w) cs).2:=by omega
 simp only[e0,ai,boxes,ints,calls,new,bJ,mL] at h1 h2 h3 h4 hg hone hone2 hle;generalize gr ⟨w,0,[],[]⟩ cs=d at*;obtain⟨d,m⟩:=d;simp only at h2 h3 h4 hg hone hone2;generalize d.boxes.map af=r1 at*;generalize az d.gone=r2 at*;generalize cs.map cR=rc at*;simp (maxSteps:=9^9) [bl,bY.m,bY.b,iz,ab,setAt,eN,hbig,h1,h2,h3,h4,hg,er,hone,hone2]
theorem bY.row(h:bY.k M){as:List V}(ha:yc [.cell (.sl [.int .u8])] as):run M 501 as []=some (.c (.bool true),[]):=by
 cases ha with|cons h0 ha=>
 cases ha;cases h0 with|cell h0=>
 cases h0 with|sl _ rows hl h1 h2=>
 refine bY.ar h rows (Nat.le_trans hl (by decide)) fun i r hr=> ?_
 have hlen:=h1 i r hr
 match r,hlen with
 |[a],_=>
  obtain⟨n,rfl⟩:=Hc (h2 i 0 [a] (.int .u8) a hr rfl rfl);exact⟨n,rfl⟩
end Mx
