/-
  What more of the functions compute, each by a small evaluation; no condition beyond what each says.
-/
import Derived.Lib.SlicesCompact
import Derived.Test.YtcihgbflbmhkbaaGreatMxJod
set_option maxHeartbeats 16000000
set_option linter.unusedSimpArgs false
set_option linter.unusedVariables false
namespace Mx
open Go
variable {M:Nat→Option Body}
def nQ(u:List UInt8)(c:jh):aT×jh:=
 let w:=cvar u c
 let t:=cvar u w.2
 let k:=jX u 5 t.2
 let bs:=lx (lq u) k.1.toNat k.2
 let go:=od u 20 bs.2
 (⟨w.1,t.1,bs.1,go.1⟩,go.2)
def lh:aT:=⟨0,0,[],[]⟩
def gL(l:List UInt8):aT×Bool:=
 if(fT l).2=true∧(nQ (fT l).1 (0,false)).2.2=false∧(nQ (fT l).1 (0,false)).2.1=(fT l).1.length∧a8 (nQ (fT l).1 (0,false)).1=true
 then((nQ (fT l).1 (0,false)).1,true) else(lh,false)
theorem yk{α:Type}{p:jh→α×jh}{Q:α→Prop}(h:∀c,Q (p c).1):∀n c,∀x∈(lx p n c).1,Q x
 |0,c,x,hx=>by simp[lx] at hx
 |n+1,c,x,hx=>by
  simp only[lx] at hx;rcases List.mem_cons.1 hx with rfl|hx
  ·exact h c
  ·exact yk h n _ x hx
theorem zB(l:List UInt8)(most:Nat)(c:jh):(od l most c).1.length≤most:=by
 have:=qq l most c;unfold od;rw[lL];omega
structure B0 (u:List UInt8) (b:bA):Prop where
 m:b.ae.length≤10
 g:b.gone.length≤40
 n:b.name.length≤u.length
 f:∀m∈b.ae,m.flags.length=3
theorem DY(u:List UInt8)(c:jh):B0 u (lq u c).1:=by
 have hn:=qq u 10 (lp u c).2;refine⟨?_, ?_, ?_, ?_⟩
 ·simp only[lq,lL];omega
 ·have:=zB u 40 (lx (jO u) (jX u 10 (lp u c).2).1.toNat (jX u 10 (lp u c).2).2).2;exact this
 ·exact rh u _
 ·exact yk (fun c=>wi u c) _ _
theorem B0.is{u:List UInt8}{b:bA}(h:B0 u b)(hu:u.length≤1048576):iL b:=⟨by have:=h.m;omega,by have:=h.g;omega,by have:=h.n;omega,fun m hm=>by rw[h.f m hm];omega⟩
theorem DS{α:Type}(f:α→List Int)(k:Nat):∀(l:List α),(∀x∈l,(f x).length≤k)→(l.flatMap f).length≤l.length*k
 |[],_=>by simp
 |x::l,h=>by
  have h1:=DS f k l fun y hy=>h y (bo _ hy)
  have h2:=h x (bf ..);have:(l.length+1)*k=l.length*k+k:=Nat.succ_mul _ _;simp only[cI,ax,bK];omega
theorem wZ{u:List UInt8}{s:aT}(hu:u.length≤1048576)(h1:s.boxes.length≤10)(h2:s.gone.length≤100)(h3:∀b∈s.boxes,B0 u b):gJ s:=by
 refine⟨by omega,by omega,fun b hb=>(h3 b hb).is hu, ?_⟩;have:=DS b_ 10 s.boxes fun b hb=>by rw[jQ];exact(h3 b hb).m
 omega
abbrev Cy:List T:=[I 0,I 0,.aK 7,.aK 1]
def Dz(w t:Int)(i:Nat)(acc:List bA)(v:Nat)(u:List UInt8)(c:jh)(x:kU):List (Nat×Ob):=[(2,⟨x.a,4,true,true,[Cy]⟩),(7,⟨x.b,4,true,true,[[I w,I t,if i=0 then .aK 7 else .row 35 x.c 0 i,.aK 1]]⟩),(17,nc v u c)]++if i=0 then [] else [(35,⟨x.c,7,true,false,acc.map af⟩)]
def EG(u:List UInt8)(ok:Bool)(w t:Int)(n i:Nat)(acc:List bA)(c:jh)(x:kU):St:={t:=[(2,.c (.ptr 2 x.a 0 0)),(4,.c (S u)),(5,.c (.bool ok)),(6,.c (.ptr 17 2000176 0 0)),(7,.c (.ptr 7 x.b 0 0)),(26,.c (I n)),(27,.c (I i))],o:=Dz w t i acc 2000176 u c x,n:=x.d}
def Gc(u:List UInt8)(ok:Bool)(w t:Int)(n:Nat)(acc:List bA)(c:jh)(x:kU):St:={t:=[(2,.c (.ptr 2 x.a 0 0)),(4,.c (S u)),(5,.c (.bool ok)),(6,.c (.ptr 17 2000176 0 0)),(7,.c (.ptr 7 x.b 0 0)),(26,.c (I n)),(27,.c (I n)),(28,.c (.bool false))],o:=Dz w t n acc 2000176 u c x,n:=x.d}
theorem bI.al(h:bI.k M)(l:List UInt8)(hl:l.length≤1048576):
  run M 76 [.c (S l)] []=some (.lN [.a (aW (gL l).1),.c (.bool (gL l).2)],[]):=by
 obtain⟨h0,k1,k2,k3,k4,k5,k6⟩:=h;have h1:=fe.al k4 l (by omega);have hu:(fT l).1.length≤1048576:=by unfold fT;split<;>simp;omega
 unfold gL;generalize fT l=un at*;obtain⟨u,ok⟩:=un;simp only at hu ⊢;have hu2:u.length≤4611686018427387904:=by omega
 have h2:=bY.at k3 u hu2 0 false;have h3:=bY.al k3 u hu2 (cvar u (0,false)).2;have e0:nQ u (0,false)=(⟨(cvar u (0,false)).1,(cvar u (cvar u (0,false)).2).1,(lx (lq u) (jX u 5 (cvar u (cvar u (0,false)).2).2).1.toNat (jX u 5 (cvar u (cvar u (0,false)).2).2).2).1,(od u 20 (lx (lq u) (jX u 5 (cvar u (cvar u (0,false)).2).2).1.toNat (jX u 5 (cvar u (cvar u (0,false)).2).2).2).2).1⟩,(od u 20 (lx (lq u) (jX u 5 (cvar u (cvar u (0,false)).2).2).1.toNat (jX u 5 (cvar u (cvar u (0,false)).2).2).2).2).2):=rfl;rw[e0];clear e0;generalize cvar u (0,false)=q1 at*;generalize cvar u q1.2=q2 at*;have h4:=ee.al k5 u hu2 5 q2.2;have hn:=qq u 5 q2.2;generalize jX u 5 q2.2=q3 at*;obtain⟨n,c1⟩:=q3;simp only at hn ⊢;obtain⟨n,rfl⟩:=h_ hn.1;simp only[fy];refine aA (b:=bI.m) h0 ⟨n+1, ?_⟩;obtain⟨g,hr⟩:=rS (f:=ct (run M) (n+1) bI.l0) n (lq u) (EG u ok q1.1 q2.1 n) 0 (Gc u ok q1.1 q2.1 n)
  (fun i hi acc c x ha=>by
   obtain⟨v,w,z,x⟩:=x;have h2:=dF.al k1 u hu2 c;simp only[kU.ex];cases i with
   |zero=>
    have:acc=[]:=aZ ha;subst this;simp (maxSteps:=9^9) [bI.l0,setAt,EG,Dz,hi,h2,wrap_one,cm,af,ints]
   |succ i=>
    have e5:IntKind.i64.wrap ((i:Int)+1+1)=(i:Int)+1+1:=wrap_i64 (by omega) (by omega);have e6:i+1+1≤4294967296:=by omega
    have e7:(i:Int)+1<n:=by omega
    simp (maxSteps:=9^9) [bI.l0,setAt,EG,Dz,e7,h2,e5,e6,ha,cm,af,ints,aa])
  (fun acc c x ha=>by
   obtain⟨v,w,z,x⟩:=x;simp only[kU.ex];by_cases hz:n=0
   ·subst hz;simp (maxSteps:=9^9) [bI.l0,EG,Gc,Dz]
   ·simp (maxSteps:=9^9) [bI.l0,EG,Gc,Dz,hz]) c1
 have hlen:=lL (lq u) n c1;have hall:=yk (fun c=>DY u c) n c1;generalize lx (lq u) n c1=q4 at*;have h5:=dE.al k6 u hu2 20 q4.2;have hgl:=zB u 20 q4.2;simp only[bO] at hgl;generalize od u 20 q4.2=q5 at*;have h6:=aJ.al k2 ⟨q1.1,q2.1,q4.1,q5.1⟩ (wZ (u:=u) hu (by simp only[hlen];omega) (by simp only;omega) hall);simp only[ai,boxes,ints,az] at h6;generalize a8 _=sk at*
 replace hr:=fun a b d=>hr ⟨a,b,0,d⟩
 cases ok
 ·by_cases hz:n=0
  ·subst hz;have hq:q4.1=[]:=aZ hlen;simp[EG,Gc,Dz] at hr;simp (maxSteps:=9^9) [ba,bI.m,bI.b,ab,setAt,h1,h2,h3,h4,h5,hr,lh,az,aa]
  ·simp[EG,Gc,Dz,hz] at hr;simp (maxSteps:=9^9) [ba,bI.m,bI.b,ab,setAt,h1,h2,h3,h4,h5,hr,lh,az,aa]
 cases c2:q5.2.2;rotate_left
 ·by_cases hz:n=0
  ·subst hz;have hq:q4.1=[]:=aZ hlen;simp[EG,Gc,Dz] at hr;simp (maxSteps:=9^9) [ba,bI.m,bI.b,ab,setAt,h1,h2,h3,h4,h5,hr,c2,lh,az,aa]
  ·simp[EG,Gc,Dz,hz] at hr;simp (maxSteps:=9^9) [ba,bI.m,bI.b,ab,setAt,h1,h2,h3,h4,h5,hr,c2,lh,az,aa]
 by_cases c3:q5.2.1=(u.length:Int);rotate_left
 ·by_cases hz:n=0
  ·subst hz;have hq:q4.1=[]:=aZ hlen;simp[EG,Gc,Dz] at hr;simp (maxSteps:=9^9) [ba,bI.m,bI.b,ab,setAt,h1,h2,h3,h4,h5,hr,c2,c3,lh,az,aa]
  ·simp[EG,Gc,Dz,hz] at hr;simp (maxSteps:=9^9) [ba,bI.m,bI.b,ab,setAt,h1,h2,h3,h4,h5,hr,c2,c3,lh,az,aa]
 by_cases hz:n=0
 ·subst hz;have hq:q4.1=[]:=aZ hlen;simp only[hq,bF] at h6;simp[EG,Gc,Dz] at hr;cases sk<;>simp (maxSteps:=9^9) [ba,bI.m,bI.b,ab,setAt,h1,h2,h3,h4,h5,h6,hr,hq,c2,c3,lh,az,aa]
 ·simp[EG,Gc,Dz,hz] at hr;cases sk<;>simp (maxSteps:=9^9) [ba,bI.m,bI.b,ab,setAt,h1,h2,h3,h4,h5,h6,hr,hlen,c2,c3,lh,az,aa]
def si(l:List UInt8):Nat→jh→Option (List bA×jh)
 |0,c=>some ([],c)
 |d+1,c=>if(lq l c).2.2=false∧fE (lq l c).1=true then(si l d (lq l c).2).map fun r=>((lq l c).1::r.1,r.2) else none
theorem qt(l:List UInt8)(c:jh)(h:c.2=true):(lq l c).2.2=true:=(yp l c).bad h
theorem vo{l:List UInt8}:∀{d:Nat} {c:jh} {r:List bA×jh},si l d c=some r→lx (lq l) d c=r∧(∀m∈r.1,fE m=true)∧(c.2=false→r.2.2=false)∧r.1.length=d∧∀m∈r.1,B0 l m
 |0,c,r,h=>by simp[si] at h;subst h;simp[lx]
 |d+1,c,r,h=>by
  simp only[si] at h;split at h
  ·rename_i hc;simp only[ao] at h;obtain⟨q,hq,rfl⟩:=h;obtain⟨h1,h2,h3,h4,h5⟩:=vo hq;refine⟨by simp[lx,h1], ?_,fun _=>h3 hc.1,by simp[h4], ?_⟩
   ·intro m hm;rcases List.mem_cons.1 hm with rfl|hm
    ·exact hc.2
    ·exact h2 m hm
   ·intro m hm;rcases List.mem_cons.1 hm with rfl|hm
    ·exact DY l c
    ·exact h5 m hm
  ·cases h
theorem zD{l:List UInt8}:∀{d:Nat} {c:jh},si l d c=none→(lx (lq l) d c).2.2=true∨∃m∈(lx (lq l) d c).1,fE m=false
 |0,c,h=>by simp[si] at h
 |d+1,c,h=>by
  simp only[si] at h;split at h
  ·rename_i hc;simp only[Option.map_eq_none_iff] at h;rcases zD h with h1|⟨m,h1,h2⟩
   ·exact .inl h1
   ·exact .inr ⟨m,bo _ h1,h2⟩
  ·rename_i hc;cases h1:(lq l c).2.2
   ·right;refine⟨_,bf .., ?_⟩;cases h2:fE (lq l c).1
    ·rfl
    ·exact(hc ⟨h1,h2⟩).elim
   ·left;exact lM (qt l) d _ h1
theorem rQ{s:aT}(h:(5<s.boxes.length∨20<s.gone.length)∨∃b∈s.boxes,fE b=false):a8 s=false:=by
 cases hb:a8 s
 ·rfl
 ·obtain⟨h1,h2,h3,h4,h5,h6,_⟩:=nZ hb;rcases h with (h|h)|⟨m,hm,h⟩
  ·omega
  ·omega
  ·rw[h6 m hm] at h;cases h
def qI(u:List UInt8)(c:jh):Option (aT×jh):=
 let w:=cvar u c
 let t:=cvar u w.2
 let k:=cvar u t.2
 (si u (Min.min k.1.toNat 6) k.2).map fun ms=>(⟨w.1,t.1,ms.1,(mD u 20 ms.2).1⟩,(mD u 20 ms.2).2)
theorem xf{u:List UInt8}{c:jh}{r:aT×jh}(hr:qI u c=some r):nQ u c=r∨(r.2.2=true∨a8 r.1=false)∧(nQ u c).2.2=true:=by
 simp only[qI,ao] at hr;obtain⟨ms,hms,rfl⟩:=hr;obtain⟨h1,h2,h3,h4,h5⟩:=vo hms;have hn:=pc u (cvar u (cvar u c).2).2;simp only[nQ,jX];generalize cvar u (cvar u (cvar u c).2).2=k at*;by_cases hb:k.2.2=true
 ·right;rw[if_pos (.inr hb)];have hms2:ms.2.2=true:=by rw[←h1];exact lM (qt u) _ _ hb
  refine⟨.inl ?_, ?_⟩
  ·simp only[mD];rw[sK _ _ (pt u _ hms2)];exact pt u _ hms2
  ·exact mI u _ _ (lM (qt u) _ _ rfl)
 ·by_cases ht:5<k.1
  ·right;rw[if_pos (.inl ht)];refine⟨.inr (rQ (.inl (.inl ?_))),mI u _ _ (lM (qt u) _ _ rfl)⟩;simp only[h4];omega
  ·rw[if_neg (by rw[not_or];exact⟨ht,hb⟩)];rw[show Min.min k.1.toNat 6=k.1.toNat by omega] at h1;rw[h1];rcases yn u 20 ms.2 with⟨q1,q2⟩|q
   ·right;refine⟨?_,q2⟩;rcases q1 with q1|q1
    ·exact .inl q1
    ·exact .inr (rQ (.inl (.inr q1)))
   ·left;rw[q];rfl
theorem AS{u:List UInt8}{c:jh}(hs:qI u c=none):¬((nQ u c).2.2=false∧a8 (nQ u c).1=true):=by
 rintro ⟨h3,h4⟩;simp only[qI,Option.map_eq_none_iff] at hs;have hk:=zD hs;have hn:=pc u (cvar u (cvar u c).2).2;simp only[nQ,jX] at h3 h4;generalize cvar u (cvar u (cvar u c).2).2=k at*;by_cases hb:k.2.2=true
 ·rw[if_pos (.inr hb)] at h3;rw[mI u _ _ (lM (qt u) _ _ rfl)] at h3;cases h3
 ·by_cases ht:5<k.1
  ·rw[if_pos (.inl ht)] at h3;rw[mI u _ _ (lM (qt u) _ _ rfl)] at h3;cases h3
  ·rw[if_neg (by rw[not_or];exact⟨ht,hb⟩)] at h3 h4;rw[show Min.min k.1.toNat 6=k.1.toNat by omega] at hk;rcases hk with hk|⟨m,hm,hk⟩
   ·rw[mI u _ _ hk] at h3;cases h3
   ·rw[rQ (.inr ⟨m,hm,hk⟩)] at h4;cases h4
theorem uA(u:List UInt8)(c:jh):nM u c (nQ u c).2 (storeT (nQ u c).1):=by
 have h1:=(((kR u c).trans (kR u _)).trans (sg u 5 (cvar u (cvar u c).2).2)).trans ((pK (yp u) (jX u 5 (cvar u (cvar u c).2).2).1.toNat (jX u 5 (cvar u (cvar u c).2).2).2).trans (se u 20 _));have hn:=lL (lq u) (jX u 5 (cvar u (cvar u c).2).2).1.toNat (jX u 5 (cvar u (cvar u c).2).2).2;simp only[storeT,mi,nQ,hn];simpa [cZ] using h1
theorem CX(u:List UInt8)(c:jh)(h:c.2=true):(nQ u c).2.2=true:=(uA u c).bad h
theorem Dp(n:Nat):gE n≠[]:=by
 unfold gE;simp
theorem AN{l:List UInt8}(h:(fT l).2=true):mm (fT l).1=(l,true):=by
 unfold fT at h ⊢;split at h
 ·rename_i hc;rw[if_pos hc];simp only[mm];have h1:(l.take (l.length-4)).length=l.length-4:=by simp
  rw[if_neg (by omega),←hc.2.2,cr]
 ·cases h
theorem Cw{a b:List UInt8}{t:List UInt8}(h:mm a=(t,true))(k:mm b=(t,true)):a=b:=by
 unfold mm at h k;split at h
 ·cases h
 ·split at k
  ·cases k
  ·simp only[aQ,and_true] at h k;rw[←k] at h;have hl:=congrArg List.length h;simp only[ax,n9] at hl;exact(List.append_inj h (by omega)).1
def qP(l:List UInt8):aT×Bool:=match qI (fT l).1 (0,!(fT l).2) with
 |none=>(lh,false)
 |some r=>if r.2.2=false∧(gK r.1).2=true∧(gK r.1).1=l then(r.1,true) else(lh,false)
theorem vL(l:List UInt8):qP l=gL l:=by
 unfold qP gL;have hun:= @AN l;generalize fT l=un at*;obtain⟨u,ok⟩:=un;simp only at hun ⊢;cases ok
 ·simp only[Bool.not_false,au,false_and,if_false];cases hs:qI u (0,true) with
  |none=>rfl
  |some r=>
   simp only;rw[if_neg];rintro ⟨h1,h2,h3⟩;rcases xf hs with q|⟨q1,q2⟩
   ·have:=CX u (0,true) rfl;rw[q,h1] at this;cases this
   ·rcases q1 with q1|q1
    ·rw[h1] at q1;cases q1
    ·simp only[gK,q1] at h2;cases h2
 ·have hun:=hun rfl;simp only[Bool.not_true,true_and];cases hs:qI u (0,false) with
  |none=>
   simp only;rw[if_neg fun k=>AS hs ⟨k.1,k.2.2⟩]
  |some r=>
   simp only;have hsp:=uA u (0,false);rcases xf hs with q|⟨q1,q2⟩
   ·rw[q] at hsp ⊢;have hiff:(r.2.2=false∧(gK r.1).2=true∧(gK r.1).1=l)↔(r.2.2=false∧r.2.1=(u.length:Int)∧a8 r.1=true):=by
     constructor
     ·rintro ⟨h1,h2,h3⟩;have hok:a8 r.1=true:=by
       cases hk:a8 r.1
       ·simp only[gK,hk] at h2;cases h2
       ·rfl
      simp only[gK,hok,if_true] at h2 h3;have heq:storeT r.1=u:=Cw (Prod.ext h3 h2) hun;refine⟨h1, ?_,hok⟩;obtain⟨_,hle,hx⟩:=hsp h1;simp only at hle hx;rcases hx with⟨hx,_⟩|⟨_,hx2,hx3⟩
      ·exfalso;have:gE r.1.boxes.length=[]:=by
        simp only[storeT,mi,List.append_eq_nil_iff] at hx;exact hx.1.2.2
       exact Dp _ this
      ·rw[heq] at hx3;have:=congrArg List.length hx3;simp at this;omega
     ·rintro ⟨h1,h2,h3⟩;obtain⟨_,hle,hx⟩:=hsp h1;have heq:storeT r.1=u:=by
       simp only at hle hx;rcases hx with⟨hx,hx2⟩|⟨_,hx2,hx3⟩
       ·exfalso;have:gE r.1.boxes.length=[]:=by
         simp only[storeT,mi,List.append_eq_nil_iff] at hx;exact hx.1.2.2
        exact Dp _ this
       ·rw[←hx3,h2];simp
      refine⟨h1, ?_, ?_⟩<;>simp[gK,h3,heq,hun]
    by_cases hc:r.2.2=false∧(gK r.1).2=true∧(gK r.1).1=l
    ·rw[if_pos hc,if_pos (hiff.1 hc)]
    ·rw[if_neg hc,if_neg fun k=>hc (hiff.2 k)]
   ·rw[if_neg,if_neg]
    ·rintro ⟨h1,_⟩;rw[q2] at h1;cases h1
    ·rintro ⟨h1,h2,h3⟩;rcases q1 with q1|q1
     ·rw[h1] at q1;cases q1
     ·simp only[gK,q1] at h2;cases h2
def Ez(w t:Int)(i:Nat)(acc:List bA)(u:List UInt8)(c:jh)(x:kU):List (Nat×Ob):=[(2,⟨x.a,4,true,true,[Cy]⟩),(7,⟨x.b,4,true,true,[[I w,I t,if i=0 then .aK 7 else .row 66 x.c 0 i,.aK 1]]⟩),(24,nc 2000208 u c)]++if i=0 then [] else [(66,⟨x.c,7,true,false,acc.map af⟩)]
def AT(l u:List UInt8)(w t:Int)(n i:Nat)(acc:List bA)(c:jh)(x:kU):St:={t:=[(0,.c (S l)),(2,.c (.ptr 2 x.a 0 0)),(4,.c (S u)),(6,.c (.ptr 24 2000208 0 0)),(7,.c (.ptr 7 x.b 0 0)),(8,.c (I n)),(9,.c (I i))],o:=Ez w t i acc u c x,n:=x.d}
def KK(l u:List UInt8)(w t:Int)(n i:Nat)(acc:List bA)(c:jh)(x:kU):St:={t:=[(0,.c (S l)),(2,.c (.ptr 2 x.a 0 0)),(4,.c (S u)),(6,.c (.ptr 24 2000208 0 0)),(7,.c (.ptr 7 x.b 0 0)),(8,.c (I n)),(9,.c (I i)),(46,.c (.bool false))],o:=Ez w t i acc u c x,n:=x.d}
def Cn(l u:List UInt8)(w t:Int)(n:Nat)(q:Option (List bA×jh))(m:kU×List (Nat×Ob)):Out×St:=match q with
 |none=>(.ret,{t:=[(2,.c (.ptr 2 m.1.a 0 0)),(3,.c (.bool false))],o:=(2,⟨m.1.a,4,true,true,[Cy]⟩)::m.2,n:=m.1.d})
 |some r=>(.exit 0,KK l u w t n r.1.length r.1 r.2 m.1)
theorem F6(l u:List UInt8)(w t:Int)(n:Nat)(q:Option (List bA×jh))(m:kU×List (Nat×Ob)):(Cn l u w t n q m).1≠.normal:=by cases q<;>simp[Cn]
theorem bl.loop(k5:bX.k M)(l u:List UInt8)(hl:u.length≤1048576)(w t:Int)(n D:Nat)(hD:Min.min n 6=D)(c:jh)(hc:0<D→c.2=false):
  ∃g:kU→kU×List (Nat×Ob),∀x,eZ (ct (run M) (D+1) bl.l0) (D+1) (AT l u w t n 0 [] c x)=some (Cn l u w t n (si u D c) (g x)):=by
 have:=jS (f:=ct (run M) (D+1) bl.l0) (fun s:Nat×List bA×jh=>AT l u w t n s.1 s.2.1 s.2.2) (fun s=>s.1≤D∧s.2.1.length=s.1∧(s.1<D→s.2.2.2=false)) (fun s=>D-s.1)
  (fun s=>(si u (D-s.1) s.2.2).map fun r=>(s.2.1++r.1,r.2)) (Cn l u w t n) ?_ (D+1) (0,[],c) ⟨Nat.zero_le _,rfl,hc⟩ (by simp)
 ·simpa using this
 rintro ⟨i,acc,c⟩ x ⟨hi,ha,hc⟩;simp only at hi ha hc;by_cases hlt:i<D
 ·have hc:=hc hlt;obtain⟨ca,cb⟩:=c;simp only at hc;subst hc;have h2:=bX.al k5 u hl ca;have h3:i<n:=by omega
  have h4:i≤5:=by omega
  have hd:D-i=(D-(i+1))+1:=by omega
  obtain⟨xa,xb,xc,xd⟩:=x;unfold sA at h2;by_cases hk:(lq u (ca,false)).2.2=false∧fE (lq u (ca,false)).1=true
  ·left;rw[if_pos hk] at h2;refine⟨(i+1,acc++[(lq u (ca,false)).1],(lq u (ca,false)).2), ?_⟩;have hcc:(lq u (ca,false)).2=((lq u (ca,false)).2.1,false):=Prod.ext rfl hk.1;have hres:(si u (D-(i+1)) (lq u (ca,false)).2).map (fun r=>((acc++[(lq u (ca,false)).1])++r.1,r.2))=(si u (D-i) (ca,false)).map fun r=>(acc++r.1,r.2):=by
    rw[hd,si,if_pos hk,Option.map_map];congr 1;funext r;simp
   simp only[hres,and_true];have hrun:∃y,ct (run M) (D+1) bl.l0 (AT l u w t n i acc (ca,false) ⟨xa,xb,xc,xd⟩)=some (.normal,AT l u w t n (i+1) (acc++[(lq u (ca,false)).1]) (lq u (ca,false)).2 y):=by
    rw[hcc];generalize lq u (ca,false)=r at*;simp only[kU.ex];cases i with
    |zero=>
     have:acc=[]:=aZ ha;subst this;simp (maxSteps:=9^9) [bl.l0,setAt,AT,Ez,h2,h3,wrap_one,cm,af,ints]
    |succ i=>
     have e5:IntKind.i64.wrap ((i:Int)+1+1)=(i:Int)+1+1:=wrap_i64 (by omega) (by omega);have e6:i+1+1≤4294967296:=by omega
     have h3':(i:Int)+1<n:=by omega
     have h4':(i:Int)+1≤5:=by omega
     simp (maxSteps:=9^9) [bl.l0,setAt,AT,Ez,h3',h4',h2,e5,e6,ha,cm,af,ints,aa]
   obtain⟨y,hy⟩:=hrun;exact⟨y,hy,⟨hlt,by simp[ha],fun _=>hk.1⟩,by omega⟩
  ·right;rw[if_neg hk] at h2;rw[hd,si,if_neg hk];have hrun:∃z,ct (run M) (D+1) bl.l0 (AT l u w t n i acc (ca,false) ⟨xa,xb,xc,xd⟩)=some (Cn l u w t n none z):=by
    simp only[aE,kU.ex];cases i with
    |zero=>
     have:acc=[]:=aZ ha;subst this;simp (maxSteps:=9^9) [bl.l0,setAt,AT,Ez,Cn,h2,h3,yT,az]
    |succ i=>
     have h3':(i:Int)+1<n:=by omega
     have h4':(i:Int)+1≤5:=by omega
     simp (maxSteps:=9^9) [bl.l0,setAt,AT,Ez,Cn,h3',h4',h2,yT,az]
   obtain⟨z,hz⟩:=hrun;exact⟨z,hz,F6 _ _ _ _ _ _ _⟩
 ·have:i=D:=by omega
  subst this;right;rw[Nat.sub_self];simp only[si,iV,dp];have hrun:∃z,ct (run M) (i+1) bl.l0 (AT l u w t n i acc c x)=some (Cn l u w t n (some (acc,c)) (z,[])):=by
   obtain⟨xa,xb,xc,xd⟩:=x;simp only[kU.ex];have hx:i=n∨i=6:=by omega
   rcases hx with rfl|rfl
   ·by_cases hz:i=0
    ·subst hz;simp (maxSteps:=9^9) [bl.l0,AT,KK,Cn,Ez,ha]
    ·simp (maxSteps:=9^9) [bl.l0,AT,KK,Cn,Ez,ha,hz]
   ·by_cases h2:(6:Int)<n
    ·simp (maxSteps:=9^9) [bl.l0,AT,KK,Cn,Ez,ha,h2]
    ·simp (maxSteps:=9^9) [bl.l0,AT,KK,Cn,Ez,ha,h2]
  obtain⟨z,hz⟩:=hrun;exact⟨(z,[]),hz,F6 _ _ _ _ _ _ _⟩
theorem bl.al(h:bl.k M)(l:List UInt8)(hl:l.length≤1048576):
  run M 75 [.c (S l)] []=some (.lN [.a (aW (gL l).1),.c (.bool (gL l).2)],[]):=by
 obtain⟨h0,k5,k1,k2,k4,k3⟩:=h;rw[←vL];have h1:=fb.al k3 l (by omega);have hu:(fT l).1.length≤1048576:=by unfold fT;split<;>simp;omega
 unfold qP;generalize fT l=un at*;obtain⟨u,ok⟩:=un;simp only at hu ⊢;have hu2:u.length≤4611686018427387904:=by omega
 have h2:=cJ.at k2 u hu2 0 (!ok);have h3:=cJ.al k2 u hu2 (cvar u (0,!ok)).2;have h4:=cJ.al k2 u hu2 (cvar u (cvar u (0,!ok)).2).2;have e0:qI u (0,!ok)=(si u (Min.min (cvar u (cvar u (cvar u (0,!ok)).2).2).1.toNat 6) (cvar u (cvar u (cvar u (0,!ok)).2).2).2).map fun ms=>(⟨(cvar u (0,!ok)).1,(cvar u (cvar u (0,!ok)).2).1,ms.1,(mD u 20 ms.2).1⟩,(mD u 20 ms.2).2):=rfl
 rw[e0];clear e0;generalize cvar u (0,!ok)=q1 at*;generalize cvar u q1.2=q2 at*;have hn:=pc u q2.2;have hz:(cvar u q2.2).2.2=true→(cvar u q2.2).1=0:=by
  unfold cvar;split
  ·intro _;rfl
  ·intro h;cases h
 generalize cvar u q2.2=q3 at*;obtain⟨n,c1⟩:=q3;simp only at hn hz ⊢;obtain⟨n,rfl⟩:=h_ hn.1;simp only[fy];obtain⟨D,hD⟩:∃D,Min.min n 6=D:=⟨_,rfl⟩
 refine aA (b:=bl.m) h0 ⟨D+1, ?_⟩;obtain⟨g,hr⟩:=bl.loop k5 l u hu q1.1 q2.1 n D hD c1 (fun hd=>by
  cases hc:c1.2
  ·rfl
  ·have:=hz hc;omega)
 rw[hD]
 replace hr:=fun a b d=>hr ⟨a,b,0,d⟩
 cases hq:si u D c1 with
 |none=>
  simp only[hq] at hr;simp[AT,Ez,Cn] at hr;simp only[Option.map_none];simp (maxSteps:=9^9) [ba,bl.m,bl.b,ab,setAt,h1,h2,h3,h4,hr,lh,az]
 |some r=>
  simp only[hq] at hr;simp only[iV];obtain⟨m1,m2,m3,m4,m5⟩:=vo hq;have h7:=eE.al k4 u hu2 20 (by omega) r.2;simp only[bO] at h7;have hgl:(mD u 20 r.2).1.length≤21:=by
   unfold mD;exact Nat.le_trans (yj _ _) (by omega)
  have h8:=ch.al k1 ⟨q1.1,q2.1,r.1,(mD u 20 r.2).1⟩ (wZ (u:=u) hu (by simp only[m4];omega) (by simp only;omega) m5);simp only[ai,boxes,ints,az] at h8;generalize mD u 20 r.2=w at*;generalize gK _=st at*;obtain⟨s1,s2⟩:=st;by_cases hz:D=0
  ·have hr0:r.1=[]:=aZ (by omega);subst hz;simp[AT,KK,Ez,Cn,hr0] at hr;simp only[hr0,bF] at h8;cases c1:w.2.2
   ·cases s2
    ·simp (maxSteps:=9^9) [ba,bl.m,bl.b,ab,setAt,h1,h2,h3,h4,h7,h8,hr,c1,lh,az,aa]
    ·by_cases c3:s1=l<;>simp (maxSteps:=9^9) [ba,bl.m,bl.b,ab,setAt,h1,h2,h3,h4,h7,h8,hr,hr0,c1,c3,lh,az,aa]
   ·simp (maxSteps:=9^9) [ba,bl.m,bl.b,ab,setAt,h1,h2,h3,h4,h7,h8,hr,c1,lh,az,aa]
  ·have hz':¬r.1.length=0:=by omega
   have hz'':r.1≠[]:=fun e=>hz' (by rw[e];rfl)
   simp[AT,KK,Ez,Cn,hz''] at hr;cases c1:w.2.2
   ·cases s2
    ·simp (maxSteps:=9^9) [ba,bl.m,bl.b,ab,setAt,h1,h2,h3,h4,h7,h8,hr,c1,lh,az,aa]
    ·by_cases c3:s1=l<;>simp (maxSteps:=9^9) [ba,bl.m,bl.b,ab,setAt,h1,h2,h3,h4,h7,h8,hr,c1,c3,lh,az,aa]
   ·simp (maxSteps:=9^9) [ba,bl.m,bl.b,ab,setAt,h1,h2,h3,h4,h7,h8,hr,c1,lh,az,aa]
theorem fX.al(h:fX.k M)(n:Int):run M 148 [.c (I n)] []=some (.c (.bool (j_ 0 n 7)),[]):=by
 have h1:=bV.j_ h.2 n 0 7;refine aA (b:=fX.m) h.1 ⟨0, ?_⟩;simp (maxSteps:=9^9) [ba,fX.m,fX.b,ab,h1]
structure gv where
 kind:Int
 box:Int
 gid:Int
 flags:Int
 text:List UInt8
abbrev b8(c:gv):List T:=[I c.kind,I c.box,I c.gid,I c.flags,S c.text]
def tn(c:gv):Bool:=if c.kind=1∨c.kind=2 then nF c.text else if c.kind=4 then decide (c.text.length≤60) else if c.kind=7 then(gL c.text).2 else decide (c.text=[])
def kJ(c:gv):Bool:=j_ 1 c.kind 7&&(if c.kind=7 then decide (c.box=0) else j_ 1 c.box 9999)&&(if c.kind=4∨c.kind=5∨c.kind=6 then j_ 1 c.gid 9999 else decide (c.gid=0))&&
 (if c.kind=4∨c.kind=5 then j_ 0 c.flags 7 else decide (c.flags=0))&&tn c
theorem fj.al(h:fj.k M)(c:gv)(hl:c.text.length≤1048576):run M 146 [.a (b8 c)] []=some (.c (.bool (tn c)),[]):=by
 obtain⟨h0,k1,k2⟩:=h;have h1:=bl.al k1 c.text hl;have h2:=dZ.al k2 c.text (by omega);refine aA (b:=fj.m) h0 ⟨0, ?_⟩;obtain⟨kind,box,gid,flags,text⟩:=c;simp only[tn] at*;simp only[aW] at h1;by_cases c1:kind=1
 ·subst c1;simp (maxSteps:=9^9) [ba,fj.m,fj.b,ab,h2]
 by_cases c2:kind=2
 ·subst c2;simp (maxSteps:=9^9) [ba,fj.m,fj.b,ab,h2]
 by_cases c4:kind=4
 ·have e60:(text.length:Int)≤60↔text.length≤60:=by omega
  subst c4;simp (maxSteps:=9^9) [ba,fj.m,fj.b,ab,e60]
 by_cases c7:kind=7
 ·subst c7;simp (maxSteps:=9^9) [ba,fj.m,fj.b,ab,setAt,h1]
 ·have e:kQ .eql (bs text) {data:= #[]}=some (.bool (decide (text=[]))):=zQ text [];simp (maxSteps:=9^9) [ba,fj.m,fj.b,ab,c1,c2,c4,c7,e]
theorem aX.al(h:aX.k M)(c:gv)(hl:c.text.length≤1048576):run M 58 [.a (b8 c)] []=some (.c (.bool (kJ c)),[]):=by
 obtain⟨h0,k1,k2⟩:=h;have h1:=fj.al k2 c hl;have h2:=bR.j_ k1 c.kind 1 7;have h3:=bR.j_ k1 c.box 1 9999;have h4:=bR.j_ k1 c.gid 1 9999;have h5:=bR.j_ k1 c.flags 0 7;refine aA (b:=aX.m) h0 ⟨0, ?_⟩;unfold kJ;generalize tn c=tk at*;simp only[b8] at h1;obtain⟨kind,box,gid,flags,text⟩:=c;simp only at*;cases r1:j_ 1 kind 7
 ·simp (maxSteps:=9^9) [ba,aX.m,aX.b,ab,h2,r1]
 have hk:kind=1∨kind=2∨kind=3∨kind=4∨kind=5∨kind=6∨kind=7:=by rw[jI] at r1;omega
 rcases hk with rfl|rfl|rfl|rfl|rfl|rfl|rfl
 ·cases r3:j_ 1 box 9999
  ·simp (maxSteps:=9^9) [ba,aX.m,aX.b,ab,h2,r1,h3,r3]
  by_cases c4:gid=0;rotate_left
  ·simp (maxSteps:=9^9) [ba,aX.m,aX.b,ab,h2,r1,h3,r3,c4]
  subst c4;by_cases c5:flags=0;rotate_left
  ·simp (maxSteps:=9^9) [ba,aX.m,aX.b,ab,h2,r1,h3,r3,c5]
  subst c5;simp (maxSteps:=9^9) [ba,aX.m,aX.b,ab,h1,h2,r1,h3,r3]
 ·cases r3:j_ 1 box 9999
  ·simp (maxSteps:=9^9) [ba,aX.m,aX.b,ab,h2,r1,h3,r3]
  by_cases c4:gid=0;rotate_left
  ·simp (maxSteps:=9^9) [ba,aX.m,aX.b,ab,h2,r1,h3,r3,c4]
  subst c4;by_cases c5:flags=0;rotate_left
  ·simp (maxSteps:=9^9) [ba,aX.m,aX.b,ab,h2,r1,h3,r3,c5]
  subst c5;simp (maxSteps:=9^9) [ba,aX.m,aX.b,ab,h1,h2,r1,h3,r3]
 ·cases r3:j_ 1 box 9999
  ·simp (maxSteps:=9^9) [ba,aX.m,aX.b,ab,h2,r1,h3,r3]
  by_cases c4:gid=0;rotate_left
  ·simp (maxSteps:=9^9) [ba,aX.m,aX.b,ab,h2,r1,h3,r3,c4]
  subst c4;by_cases c5:flags=0;rotate_left
  ·simp (maxSteps:=9^9) [ba,aX.m,aX.b,ab,h2,r1,h3,r3,c5]
  subst c5;simp (maxSteps:=9^9) [ba,aX.m,aX.b,ab,h1,h2,r1,h3,r3]
 ·cases r3:j_ 1 box 9999
  ·simp (maxSteps:=9^9) [ba,aX.m,aX.b,ab,h2,r1,h3,r3]
  cases r4:j_ 1 gid 9999
  ·simp (maxSteps:=9^9) [ba,aX.m,aX.b,ab,h2,r1,h3,r3,h4,r4]
  cases r5:j_ 0 flags 7
  ·simp (maxSteps:=9^9) [ba,aX.m,aX.b,ab,h2,r1,h3,r3,h4,r4,h5,r5]
  simp (maxSteps:=9^9) [ba,aX.m,aX.b,ab,h1,h2,r1,h3,r3,h4,r4,h5,r5]
 ·cases r3:j_ 1 box 9999
  ·simp (maxSteps:=9^9) [ba,aX.m,aX.b,ab,h2,r1,h3,r3]
  cases r4:j_ 1 gid 9999
  ·simp (maxSteps:=9^9) [ba,aX.m,aX.b,ab,h2,r1,h3,r3,h4,r4]
  cases r5:j_ 0 flags 7
  ·simp (maxSteps:=9^9) [ba,aX.m,aX.b,ab,h2,r1,h3,r3,h4,r4,h5,r5]
  simp (maxSteps:=9^9) [ba,aX.m,aX.b,ab,h1,h2,r1,h3,r3,h4,r4,h5,r5]
 ·cases r3:j_ 1 box 9999
  ·simp (maxSteps:=9^9) [ba,aX.m,aX.b,ab,h2,r1,h3,r3]
  cases r4:j_ 1 gid 9999
  ·simp (maxSteps:=9^9) [ba,aX.m,aX.b,ab,h2,r1,h3,r3,h4,r4]
  by_cases c5:flags=0;rotate_left
  ·simp (maxSteps:=9^9) [ba,aX.m,aX.b,ab,h2,r1,h3,r3,h4,r4,c5]
  subst c5;simp (maxSteps:=9^9) [ba,aX.m,aX.b,ab,h1,h2,r1,h3,r3,h4,r4]
 ·by_cases c3:box=0;rotate_left
  ·simp (maxSteps:=9^9) [ba,aX.m,aX.b,ab,h2,r1,c3]
  subst c3;by_cases c4:gid=0;rotate_left
  ·simp (maxSteps:=9^9) [ba,aX.m,aX.b,ab,h2,r1,c4]
  subst c4;by_cases c5:flags=0;rotate_left
  ·simp (maxSteps:=9^9) [ba,aX.m,aX.b,ab,h2,r1,c5]
  subst c5;simp (maxSteps:=9^9) [ba,aX.m,aX.b,ab,h1,h2,r1]
theorem CG(text:List UInt8):(decide ((bs text).toList=ByteArray.toList {data:= #[]}))=decide (text=[]):=by
 have e:=oD [];have e2:=oD text;simp only[bs] at e e2;simp only[bs,e2];exact congrArg (fun x=>decide (text=x)) e
theorem aO.al(h:aO.k M)(c:gv)(hl:c.text.length≤1048576):run M 59 [.a (b8 c)] []=some (.c (.bool (kJ c)),[]):=by
 obtain⟨h0,k1,k2,k3,k4⟩:=h;have h1:=bI.al k1 c.text hl;have h2:=ev.al k2 c.text (by omega);have h3:=gD.al k3 c.box;have h4:=gD.al k3 c.gid;have h5:=fX.al k4 c.flags;refine aA (b:=aO.m) h0 ⟨0, ?_⟩;unfold kJ tn;simp only[aW] at h1;obtain⟨kind,box,gid,flags,text⟩:=c;simp only at*;have e:=CG text;have e60:(text.length:Int)≤60↔text.length≤60:=by omega
 generalize gL text=rs at*;generalize nF text=nm at*;have q1:j_ 1 1 7=true:=rfl;have q2:j_ 1 2 7=true:=rfl;have q3:j_ 1 3 7=true:=rfl;have q4:j_ 1 4 7=true:=rfl;have q5:j_ 1 5 7=true:=rfl;have q6:j_ 1 6 7=true:=rfl;have q7:j_ 1 7 7=true:=rfl;by_cases hk:kind=1∨kind=2∨kind=3∨kind=4∨kind=5∨kind=6∨kind=7;rotate_left
 ·have r1:j_ 1 kind 7=false:=by
   rw[Bool.eq_false_iff];intro q;rw[jI] at q;omega
  simp only[not_or] at hk;cases r3:j_ 1 box 9999<;>simp (maxSteps:=9^9) [ba,aO.m,aO.b,ab,setAt,h3,r1,r3,hk.1,hk.2.1,hk.2.2.1,hk.2.2.2.1,hk.2.2.2.2.1,hk.2.2.2.2.2.1,hk.2.2.2.2.2.2]
 cases r3:j_ 1 box 9999
 ·by_cases k7:kind=7
  ·subst k7;cases b1:rs.2
   ·simp (maxSteps:=9^9) [ba,aO.m,aO.b,ab,setAt,h1,h3,r3,q7,b1]
   by_cases c3:box=0;rotate_left
   ·simp (maxSteps:=9^9) [ba,aO.m,aO.b,ab,setAt,h1,h3,r3,q7,b1,c3]
   subst c3;by_cases c4:gid=0;rotate_left
   ·simp (maxSteps:=9^9) [ba,aO.m,aO.b,ab,setAt,h1,h3,r3,q7,b1,c4]
   subst c4;by_cases c5:flags=0;rotate_left
   ·simp (maxSteps:=9^9) [ba,aO.m,aO.b,ab,setAt,h1,h3,r3,q7,b1,c5]
   subst c5;simp (maxSteps:=9^9) [ba,aO.m,aO.b,ab,setAt,h1,h3,r3,q7,b1]
  rcases hk with rfl|rfl|rfl|rfl|rfl|rfl|rfl
  ·simp (maxSteps:=9^9) [ba,aO.m,aO.b,ab,setAt,h3,r3,q1]
  ·simp (maxSteps:=9^9) [ba,aO.m,aO.b,ab,setAt,h3,r3,q2]
  ·simp (maxSteps:=9^9) [ba,aO.m,aO.b,ab,setAt,h3,r3,q3]
  ·simp (maxSteps:=9^9) [ba,aO.m,aO.b,ab,setAt,h3,r3,q4]
  ·simp (maxSteps:=9^9) [ba,aO.m,aO.b,ab,setAt,h3,r3,q5]
  ·simp (maxSteps:=9^9) [ba,aO.m,aO.b,ab,setAt,h3,r3,q6]
  ·exact absurd rfl k7
 rcases hk with rfl|rfl|rfl|rfl|rfl|rfl|rfl
 ·by_cases c4:gid=0;rotate_left
  ·simp (maxSteps:=9^9) [ba,aO.m,aO.b,ab,setAt,h3,r3,q1,c4]
  subst c4;by_cases c5:flags=0;rotate_left
  ·simp (maxSteps:=9^9) [ba,aO.m,aO.b,ab,setAt,h3,r3,q1,c5]
  subst c5;simp (maxSteps:=9^9) [ba,aO.m,aO.b,ab,setAt,h2,h3,r3,q1]
 ·by_cases c4:gid=0;rotate_left
  ·simp (maxSteps:=9^9) [ba,aO.m,aO.b,ab,setAt,h3,r3,q2,c4]
  subst c4;by_cases c5:flags=0;rotate_left
  ·simp (maxSteps:=9^9) [ba,aO.m,aO.b,ab,setAt,h3,r3,q2,c5]
  subst c5;simp (maxSteps:=9^9) [ba,aO.m,aO.b,ab,setAt,h2,h3,r3,q2]
 ·by_cases c4:gid=0;rotate_left
  ·simp (maxSteps:=9^9) [ba,aO.m,aO.b,ab,setAt,h3,r3,q3,c4]
  subst c4;by_cases c5:flags=0;rotate_left
  ·simp (maxSteps:=9^9) [ba,aO.m,aO.b,ab,setAt,h3,r3,q3,c5]
  subst c5;simp (maxSteps:=9^9) [ba,aO.m,aO.b,ab,setAt,h3,r3,q3]
 ·cases r4:j_ 1 gid 9999
  ·simp (maxSteps:=9^9) [ba,aO.m,aO.b,ab,setAt,h3,h4,r3,r4,q4]
  cases r5:j_ 0 flags 7
  ·simp (maxSteps:=9^9) [ba,aO.m,aO.b,ab,setAt,h3,h4,h5,r3,r4,r5,q4]
  simp (maxSteps:=9^9) [ba,aO.m,aO.b,ab,setAt,h3,h4,h5,r3,r4,r5,q4,e60]
 ·by_cases c6:text=[];rotate_left
  ·simp (maxSteps:=9^9) [ba,aO.m,aO.b,ab,setAt,h3,r3,q5,c6]
  cases r4:j_ 1 gid 9999
  ·simp (maxSteps:=9^9) [ba,aO.m,aO.b,ab,setAt,h3,h4,r3,r4,q5,c6]
  cases r5:j_ 0 flags 7
  ·simp (maxSteps:=9^9) [ba,aO.m,aO.b,ab,setAt,h3,h4,h5,r3,r4,r5,q5,c6]
  simp (maxSteps:=9^9) [ba,aO.m,aO.b,ab,setAt,h3,h4,h5,r3,r4,r5,q5,c6]
 ·by_cases c5:flags=0;rotate_left
  ·simp (maxSteps:=9^9) [ba,aO.m,aO.b,ab,setAt,h3,r3,q6,c5]
  subst c5;by_cases c6:text=[];rotate_left
  ·simp (maxSteps:=9^9) [ba,aO.m,aO.b,ab,setAt,h3,r3,q6,c6]
  cases r4:j_ 1 gid 9999
  ·simp (maxSteps:=9^9) [ba,aO.m,aO.b,ab,setAt,h3,h4,r3,r4,q6,c6]
  simp (maxSteps:=9^9) [ba,aO.m,aO.b,ab,setAt,h3,h4,r3,r4,q6,c6]
 ·cases b1:rs.2
  ·simp (maxSteps:=9^9) [ba,aO.m,aO.b,ab,setAt,h1,h3,r3,q7,b1]
  by_cases c3:box=0
  ·subst c3;cases r3
  simp (maxSteps:=9^9) [ba,aO.m,aO.b,ab,setAt,h1,h3,r3,q7,b1,c3]
end Mx
namespace Mx
open Go
theorem lS{n:Int}(h:n<16384):(cZ n).length≤3:=by
 have:=rN 2 n.toNat (by omega);simp[cZ,gE];omega
theorem uM{n:Int}(h:n<2097152):(cZ n).length≤4:=by
 have:=rN 3 n.toNat (by omega);simp[cZ,gE];omega
theorem pe{n:Nat}(h:n<16384):(gE n).length≤3:=by
 have:=lS (n:=n) (by omega);simpa [cZ] using this
theorem Bw{l:List nE}(h:lQ l=true):∀r∈l,r.val≤1∧r.time≤100000∧r.df≤2∧ot r=true:=by
 intro r hr;simp only[lQ,aj,decide_eq_true_eq,cn,ju] at h;obtain⟨i,hi,e⟩:=bW hr;have:=h.1 i hi;rw[oF hi,e] at this;simp at this;have h2:=this.1;simp only[ot,kM,aj,jI] at h2;exact⟨by omega,by omega,by omega,this.1⟩
theorem Be{m:bp}(h:i_ m=true):(mA m).length≤100:=by
 have h0:=h;simp only[i_,aj,jI,decide_eq_true_eq] at h;obtain⟨⟨⟨h1,h2⟩,h3⟩,h4⟩:=h;have hf:=(pb h3).1;have:=lS (n:=m.gid) (by omega);have:=lS (n:=m.uid) (by omega);have h6:=jJ sS m.flags 10 fun r hr=>by
  have:=Bw h3 r hr;have:=lS (n:=r.val) (by omega);have:=uM (n:=r.time) (by omega);have:=lS (n:=r.df) (by omega);simp[sS,texts];omega
 have h7:=pe (n:=m.text.length) (by omega);rw[hf] at h6;simp only[mA,fK,ax];have:(texts cZ [m.gid,m.uid]).length≤6:=by simp[texts];omega
 omega
theorem C6{b:bA}(h:fE b=true):(oX b).length≤1200:=by
 obtain⟨v1,v2,v3,v4,v5,v6,v7,v8,v9⟩:=jR h;simp only[fE,aj,decide_eq_true_eq,jI] at h;obtain⟨⟨⟨⟨⟨⟨h1,h2⟩,h3⟩,h4⟩,h5⟩,h6⟩,h7⟩:=h;simp only[kM,aj,jI] at h3;have:=lS (n:=b.gid) (by omega);have:=uM (n:=b.time) (by omega);have:=lS (n:=b.df) (by omega);have:=lS (n:=b.next) (by omega);have:=pe (n:=b.name.length) (by omega);have:=pe (n:=b.ae.length) (by omega);have:=pe (n:=b.gone.length) (by omega);have hg:=nW h6;have:=jJ cZ b.gone 3 fun n hn=>lS (by have:=hg.2 n hn;omega)
 have:=jJ mA b.ae 100 fun m hm=>Be (v9 m hm)
 simp only[oX,so,ax];omega
theorem zR{s:aT}(h:a8 s=true):(storeT s).length≤7000:=by
 obtain⟨v1,v2,v3,v4,v5,v6,v7,v8⟩:=nZ h;simp only[a8,aj,decide_eq_true_eq,jI] at h;obtain⟨⟨⟨⟨h1,h2⟩,h3⟩,h4⟩,h5⟩:=h;have:=lS (n:=s.df) (by omega);have:=uM (n:=s.time) (by omega);have:=pe (n:=s.boxes.length) (by omega);have:=pe (n:=s.gone.length) (by omega);have hg:=nW h4;have:=jJ cZ s.gone 3 fun n hn=>lS (by have:=hg.2 n hn;omega)
 have:=jJ oX s.boxes 1200 fun m hm=>C6 (v6 m hm)
 simp only[storeT,mi,ax];omega
theorem ua{l:List UInt8}(h:(gL l).2=true):a8 (gL l).1=true∧mm (storeT (gL l).1)=(l,true):=by
 rw[←vL] at h ⊢;unfold qP at h ⊢;cases hs:qI (fT l).1 (0,!(fT l).2) with
 |none=>rw[hs] at h;cases h
 |some r=>
  rw[hs] at h;simp only at h ⊢;split at h
  ·rename_i hc;rw[if_pos hc];obtain⟨h1,h2,h3⟩:=hc;cases hk:a8 r.1
   ·simp only[gK,hk] at h2;cases h2
   ·simp only[gK,hk,if_true] at h2 h3;exact⟨rfl,Prod.ext h3 h2⟩
  ·cases h
theorem wz{l:List UInt8}(h:(gL l).2=true):l.length≤7004:=by
 obtain⟨h1,h2⟩:=ua h;have:=zR h1;unfold mm at h2;split at h2
 ·cases h2
 ·simp only[aQ,and_true] at h2;rw[←h2];simp[n9];omega
end Mx
namespace Mx
open Go
variable {M:Nat→Option Body}
def ov(n:Int):UInt8:=UInt8.ofNat (n%256).toNat
theorem C1(n:Int):IntKind.u8.wrap n=((ov n).toNat:Int):=by
 unfold IntKind.wrap ov;simp[IntKind.bits,IntKind.signed];omega
def jY(c:gv):List UInt8:=ov c.kind::(cZ c.box++(cZ c.gid++(cZ c.flags++(gE c.text.length++c.text))))
def kH(c:gv):List UInt8×Bool:=if kJ c=true then(jY c,true) else([],false)
theorem sj{c:gv}(h:kJ c=true):isVar c.box∧isVar c.gid∧isVar c.flags∧1≤c.kind∧c.kind≤7:=by
 simp only[kJ,aj,jI] at h;obtain⟨⟨⟨⟨h1,h2⟩,h3⟩,h4⟩,_⟩:=h;refine⟨?_, ?_, ?_,h1.1,h1.2⟩
 ·split at h2
  ·simp only[decide_eq_true_eq] at h2;exact⟨by omega,by omega⟩
  ·rw[jI] at h2;exact⟨by omega,by omega⟩
 ·split at h3
  ·rw[jI] at h3;exact⟨by omega,by omega⟩
  ·simp only[decide_eq_true_eq] at h3;exact⟨by omega,by omega⟩
 ·split at h4
  ·rw[jI] at h4;exact⟨by omega,by omega⟩
  ·simp only[decide_eq_true_eq] at h4;exact⟨by omega,by omega⟩
theorem gN.al(h:gN.k M)(c:gv)(hl:c.text.length≤1048576):run M 67 [.a (b8 c)] []=some (.lN [.c (S (kH c).1),.c (.bool (kH c).2)],[]):=by
 obtain⟨h0,k1,k2⟩:=h;have h1:=aX.al k1 c hl;refine aA (b:=gN.m) h0 ⟨0, ?_⟩;simp only[b8] at h1;unfold kH;cases ck:kJ c
 ·rw[ck] at h1;simp (maxSteps:=9^9) [ba,gN.m,gN.b,ab,h1]
 rw[ck] at h1;obtain⟨v1,v2,v3,_⟩:=sj ck;have g1:=bH.int k2 c.box v1.1 (by have:=v1.2;omega);have g2:=bH.int k2 c.gid v2.1 (by have:=v2.2;omega);have g3:=bH.int k2 c.flags v3.1 (by have:=v3.2;omega);have g4:=bH.al k2 c.text.length (by omega);have l1:=cz v1;have l2:=cz v2;have l3:=cz v3;have l4:=jc (n:=c.text.length) (by omega);have hb:=C1 c.kind;have hr:mF [[U8 (ov c.kind).toNat]]=some [ov c.kind]:=yt [ov c.kind];have e1:=bL [ov c.kind] (cZ c.box) (by simp;omega);have e2:=bL ([ov c.kind]++cZ c.box) (cZ c.gid) (by simp;omega);have e3:=bL ([ov c.kind]++cZ c.box++cZ c.gid) (cZ c.flags) (by simp;omega);have e4:=bL ([ov c.kind]++cZ c.box++cZ c.gid++cZ c.flags) (gE c.text.length) (by simp;omega);have e5:=bL ([ov c.kind]++cZ c.box++cZ c.gid++cZ c.flags++gE c.text.length) c.text (by simp;omega);simp only[bN,List.cons_append,List.nil_append] at e1 e2 e3 e4 e5;simp only[bs] at e1;simp (maxSteps:=9^9) [ba,gN.m,gN.b,ab,h1,g1,g2,g3,g4,hb,hr,e1,e2,e3,e4,e5,jY]
def wk:gv:=⟨0,0,0,0,[]⟩
def yo(l:List UInt8)(k:Int):gv×jh:=
 let b:=cvar l (1,false)
 let g:=cvar l b.2
 let f:=cvar l g.2
 let t:=iH l f.2
 (⟨k,b.1,g.1,f.1,t.1⟩,t.2)
def j1(l:List UInt8):gv×Bool:=match l with
 |[]=>(wk,false)
 |k::_=>if(yo l k.toNat).2.2=false∧(yo l k.toNat).2.1=l.length∧kJ (yo l k.toNat).1=true then((yo l k.toNat).1,true) else(wk,false)
theorem BG(k:UInt8):IntKind.i64.wrap (k.toNat:Int)=(k.toNat:Int):=by
 have:=k.toNat_lt;exact wrap_i64 (by omega) (by omega)
theorem IP(l:List UInt8):kQ .eql (bs l) {data:= #[]}=some (.bool (decide (l=[]))):=zQ l []
theorem ff.al(h:ff.k M)(l:List UInt8)(hl:l.length≤1048576):run M 65 [.c (S l)] []=some (.lN [.a (b8 (j1 l).1),.c (.bool (j1 l).2)],[]):=by
 obtain⟨h0,k1,k2,k3⟩:=h;refine aA (b:=ff.m) h0 ⟨0, ?_⟩;have e:=IP l;cases l with
 |nil=>simp (maxSteps:=9^9) [ba,ff.m,ff.b,ab,setAt,e,j1,wk]
 |cons k l=>
  have hl2:(k::l).length≤4611686018427387904:=by omega
  have h1:=bY.at k2 (k::l) hl2 1 false;have h2:=bY.al k2 (k::l) hl2 (cvar (k::l) (1,false)).2;have h3:=bY.al k2 (k::l) hl2 (cvar (k::l) (cvar (k::l) (1,false)).2).2;have h4:=eN.al k3 (k::l) hl2 (cvar (k::l) (cvar (k::l) (cvar (k::l) (1,false)).2).2).2;have hlen:=rh (k::l) (cvar (k::l) (cvar (k::l) (cvar (k::l) (1,false)).2).2).2;have e0:yo (k::l) k.toNat=(⟨k.toNat,(cvar (k::l) (1,false)).1,(cvar (k::l) (cvar (k::l) (1,false)).2).1,(cvar (k::l) (cvar (k::l) (cvar (k::l) (1,false)).2).2).1,(iH (k::l) (cvar (k::l) (cvar (k::l) (cvar (k::l) (1,false)).2).2).2).1⟩,(iH (k::l) (cvar (k::l) (cvar (k::l) (cvar (k::l) (1,false)).2).2).2).2):=rfl;simp only[j1];rw[e0];clear e0;have ew:=BG k;have eg:(bs (k::l))[0]'(by simp)=k:=by rw[dP];rfl
  generalize cvar (k::l) (1,false)=q1 at*;generalize cvar (k::l) q1.2=q2 at*;generalize cvar (k::l) q2.2=q3 at*;generalize iH (k::l) q3.2=q4 at*;have h5:=aO.al k1 ⟨k.toNat,q1.1,q2.1,q3.1,q4.1⟩ (by simp only;omega);simp only[b8] at h5;generalize kJ _=ok at*;cases c2:q4.2.2;rotate_left
  ·simp (maxSteps:=9^9) [ba,ff.m,ff.b,ab,dP,setAt,e,ew,h1,h2,h3,h4,c2,wk]
  by_cases c3:q4.2.1=((k::l).length:Int);rotate_left
  ·simp at c3;simp (maxSteps:=9^9) [ba,ff.m,ff.b,ab,dP,setAt,e,ew,h1,h2,h3,h4,c2,c3,wk]
  simp at c3;cases ok<;>simp (maxSteps:=9^9) [ba,ff.m,ff.b,ab,dP,setAt,e,ew,h1,h2,h3,h4,h5,c2,c3,wk]
theorem z7(l:List UInt8):(j1 l).1.text.length≤l.length:=by
 unfold j1;cases l with
 |nil=>simp[wk]
 |cons k l=>
  simp only;split
  ·exact rh _ _
  ·simp[wk]
end Mx
namespace Mx
open Go
def Rd{α:Type}(l:List UInt8)(f:jh→α×jh)(t:List UInt8)(x:α):Prop:=
 ∀p q,l=p++(t++q)→f ((p.length:Int),false)=(x,((p.length+t.length:Nat):Int),false)
theorem FO{m:Nat}(h:¬m>127):gE m=[UInt8.ofNat m]:=by simp[gE,rM h]
theorem Eg{m:Nat}(h:m>127):gE m=UInt8.ofNat (m%128+128)::gE (m/128):=by simp[gE,sw h]
theorem ze(n:Nat)(hn:n≤1000000000)(p q:List UInt8):∀(d k m acc:Nat) (pre:List UInt8),0<d→m<128^d→pre.length=k→acc+m*pw k=n→gE n=pre++gE m→
  mS (p++(gE n++q)) p.length d k acc=some (n,p.length+(gE n).length,true)
 |0,k,m,acc,pre,h0,_,_,_,_=>by omega
 |d+1,k,m,acc,pre,_,hm,hp,ha,ht=>by
  by_cases c:m>127
  ·have hv:=Eg c;have hl:p.length+k<(p++(gE n++q)).length:=by rw[ht,hv];simp;omega
   have hb:(p++(gE n++q))[p.length+k]=UInt8.ofNat (m%128+128):=by
    have e:p++(gE n++q)=(p++pre)++(UInt8.ofNat (m%128+128)::(gE (m/128)++q)):=by rw[ht,hv];simp
    have:=DR (p++pre) (UInt8.ofNat (m%128+128)) (gE (m/128)++q) (p.length+k) (by simp[hp]);rw[←e,cj hl] at this;exact Option.some.inj this
   have hn8:(UInt8.ofNat (m%128+128)).toNat=m%128+128:=by rw[UInt8.toNat_ofNat'];omega
   rw[mS,dif_pos hl,hb,hn8,if_neg (by omega)];have hd:0<d:=by
    rcases Nat.eq_zero_or_pos d with z|z
    ·subst z;simp at hm;omega
    ·exact z
   have e1:(m%128+128)%128=m%128:=by omega
   rw[e1];refine ze n hn p q d (k+1) (m/128) _ (pre++[UInt8.ofNat (m%128+128)]) hd ?_ (by simp[hp]) ?_ (by rw[ht,hv];simp)
   ·rw[Nat.div_lt_iff_lt_mul (by omega),←Nat.pow_succ];exact hm
   ·have e2:m/128*(pw k*128)=m/128*128*pw k:=by rw[Nat.mul_comm (pw k) 128,←Nat.mul_assoc]
    rw[z8,e2,Nat.add_assoc,←Nat.add_mul];have e3:m%128+m/128*128=m:=by omega
    rw[e3];exact ha
  ·have hv:=FO c;have hl:p.length+k<(p++(gE n++q)).length:=by rw[ht,hv];simp;omega
   have hb:(p++(gE n++q))[p.length+k]=UInt8.ofNat m:=by
    have e:p++(gE n++q)=(p++pre)++(UInt8.ofNat m::q):=by rw[ht,hv];simp
    have:=DR (p++pre) (UInt8.ofNat m) q (p.length+k) (by simp[hp]);rw[←e,cj hl] at this;exact Option.some.inj this
   have hn8:(UInt8.ofNat m).toNat=m:=by rw[UInt8.toNat_ofNat'];omega
   have hlen:(gE n).length=k+1:=by rw[ht,hv];simp[hp]
   rw[mS,dif_pos hl,hb,hn8,if_pos (by omega)];have e1:acc+m%128*pw k=n:=by rw[Nat.mod_eq_of_lt (by omega)];exact ha
   have e2:((p++(gE n++q)).drop p.length).take (k+1)=gE n:=by
    rw[List.drop_left,←hlen,List.take_left]
   rw[e1,e2,if_pos ⟨hn,rfl⟩,hlen];rfl
theorem qO{n:Nat}(hn:n≤1000000000)(p q:List UInt8):fS (p++(gE n++q)) p.length=(n,p.length+(gE n).length,true):=by
 unfold fS;rw[if_pos ⟨by omega,by simp;omega⟩];have:=ze n hn p q 5 0 n 0 [] (by omega) (Nat.lt_of_le_of_lt hn (by decide)) rfl (by simp[pw]) (by simp);simp only[fy,this,jz]
theorem CA{l:List UInt8}{n:Int}(h:isVar n):Rd l (cvar l) (cZ n) n:=by
 intro p q e;have h1:=h.1;have h2:=h.2;have:=qO (n:=n.toNat) (by omega) p q;unfold cvar cZ;subst e;simp only[cZ] at this ⊢;simp only[this,au,Bool.true_eq_false,or_self,if_false];rw[show ((n.toNat:Nat):Int)=n by omega]
theorem Gk{l:List UInt8}{s:List UInt8}(h:s.length≤20000):Rd l (iH l) (fK s) s:=by
 intro p q e;have hv:=qO (n:=s.length) (by omega) p (s++q);have e2:l=p++(gE s.length++(s++q)):=by rw[e,fK];simp
 have hr:c_ l p.length=(s,p.length+(fK s).length,true):=by
  unfold c_;rw[e2,hv];have h1:s.length+(p.length+(gE s.length).length)≤(p++(gE s.length++(s++q))).length:=by simp;omega
  rw[if_pos ⟨rfl,h,h1⟩];have h2:(p++(gE s.length++(s++q))).drop (p.length+(gE s.length).length)=s++q:=by
   rw[←bN,List.drop_left' (by simp)]
  simp only[h2,List.take_left,fK,ax,aQ,and_true,true_and];omega
 unfold iH;simp only[hr,au,Bool.true_eq_false,or_self,if_false]
theorem wj{c:gv}(h:kJ c=true):c.text.length≤7004:=by
 simp only[kJ,aj] at h;have ht:=h.2;unfold tn at ht;split at ht
 ·have:=(mZ ht).2;omega
 ·split at ht
  ·have:=of_decide_eq_true ht;omega
  ·split at ht
   ·exact wz ht
   ·have:=of_decide_eq_true ht;rw[this];simp
theorem s5{c:gv}(h:kJ c=true):j1 (jY c)=(c,true):=by
 obtain⟨v1,v2,v3,v4,v5⟩:=sj h;have hx:=wj h;have hk:((ov c.kind).toNat:Int)=c.kind:=by
  unfold ov;rw[UInt8.toNat_ofNat'];omega
 obtain⟨l,hl⟩:∃l,l=jY c:=⟨_,rfl⟩
 have e1:=CA (l:=l) v1 [ov c.kind] (cZ c.gid++(cZ c.flags++(gE c.text.length++c.text))) (by rw[hl];rfl);have e2:=CA (l:=l) v2 (ov c.kind::cZ c.box) (cZ c.flags++(gE c.text.length++c.text)) (by rw[hl];simp[jY]);have e3:=CA (l:=l) v3 (ov c.kind::(cZ c.box++cZ c.gid)) (gE c.text.length++c.text) (by rw[hl];simp[jY]);have e4:=Gk (l:=l) (s:=c.text) (by omega) (ov c.kind::(cZ c.box++(cZ c.gid++cZ c.flags))) [] (by rw[hl];simp[jY,fK]);simp only[bK,dM,ax,Nat.zero_add] at e1 e2 e3 e4;have hlen:l.length=1+(cZ c.box).length+(cZ c.gid).length+(cZ c.flags).length+(fK c.text).length:=by
  rw[hl];simp only[jY,fK,bK,ax];omega
 generalize (cZ c.box).length=a1 at*;generalize (cZ c.gid).length=a2 at*;generalize (cZ c.flags).length=a3 at*;rw[show a1+1=1+a1 by omega] at e2;rw[show a1+a2+1=1+a1+a2 by omega] at e3;rw[show a1+(a2+a3)+1=1+a1+a2+a3 by omega] at e4;have e0:((1:Nat):Int)=1:=rfl;rw[e0] at e1;have hc:yo l c.kind=(c,((l.length:Nat):Int),false):=by
  simp only[yo,e1,e2,e3,e4,hlen]
 have hl2:l=ov c.kind::(cZ c.box++(cZ c.gid++(cZ c.flags++(gE c.text.length++c.text)))):=hl;rw[←hl,hl2];unfold j1;simp only;rw[←hl2,hk,hc];simp[h]
theorem BF{c:gv}(h:kJ c=true):kH c=(jY c,true):=by unfold kH;rw[if_pos h]
theorem AG(c:gv):(kH c).2=kJ c:=by unfold kH;cases kJ c<;>rfl
theorem AH(c:gv):(kH c).1.length≤8000:=by
 unfold kH;split
 ·rename_i h;obtain⟨v1,v2,v3,v4,v5⟩:=sj h;have:=wj h;have:=cz v1;have:=cz v2;have:=cz v3;have:=jc (n:=c.text.length) (by omega);simp only[jY,bK,ax];omega
 ·simp
def nY(t:List UInt8):List UInt8:=fK t++four (sumOf (fK t))
def qc(t:List UInt8):Prop:=1≤t.length∧t.length≤6000
theorem sZ{t:List UInt8}(h:qc t):kq t=(nY t,true):=by
 have:=jc (n:=t.length) (by have:=h.2;omega);unfold kq mm;have:=h.2;rw[if_pos (show 1≤t.length∧t.length≤6000 from h),if_neg (by simp only[fK,ax];omega)];rfl
theorem A_(t:List UInt8):4≤(nY t).length:=by simp[nY,n9]
theorem Gj{t:List UInt8}(h:qc t):(nY t).length≤6014:=by
 have:=jc (n:=t.length) (by have:=h.2;omega);have:=h.2;simp only[nY,fK,ax,n9];omega
theorem xw{s:List UInt8}(hs:s.length≤20000)(p q:List UInt8):c_ (p++(fK s++q)) p.length=(s,p.length+(fK s).length,true):=by
 have h:=qO (n:=s.length) (by omega) p (s++q);have e:p++(fK s++q)=p++(gE s.length++(s++q)):=by simp[fK]
 rw[e];unfold c_;rw[h];simp only;rw[if_pos ⟨trivial,hs,by simp only[ax];omega⟩];have e2:p++(gE s.length++(s++q))=(p++gE s.length)++(s++q):=by simp
 have e3:(p++(gE s.length++(s++q))).drop (p.length+(gE s.length).length)=s++q:=by
  rw[e2,←ax,List.drop_left]
 rw[e3];refine Prod.ext ?_ (Prod.ext ?_ rfl)
 ·simp only[List.take_left]
 ·simp only[fK,ax];omega
theorem tw{t:List UInt8}(h:qc t)(p q:List UInt8):recAt (p++(nY t++q)) p.length=(t,p.length+(nY t).length,true):=by
 have e:p++(nY t++q)=p++(fK t++(four (sumOf (fK t))++q)):=by simp[nY]
 have hr:=xw (s:=t) (by have:=h.2;omega) p (four (sumOf (fK t))++q);have e2:(p++(fK t++(four (sumOf (fK t))++q))).drop (p.length+(fK t).length)=four (sumOf (fK t))++q:=by
  rw[←bN,←ax,List.drop_left]
 rw[e];unfold recAt;rw[hr];simp only;rw[if_pos ⟨trivial,h,by simp only[ax,n9];omega,by rw[e2,List.take_left' (n9 _)]⟩];simp only[nY,ax,n9];rw[Nat.add_assoc]
theorem zi{l:List UInt8}{a:Nat}(ha:a≤l.length)(h:(recAt l a).2.2=true):qc (recAt l a).1∧l.drop a=nY (recAt l a).1++l.drop (recAt l a).2.1:=by
 unfold recAt at h ⊢;split at h
 ·rename_i c;rw[if_pos c];obtain⟨c1,c2,c3,c4⟩:=c;obtain⟨m,e,h1,h2,h3,h4⟩:=o8 l a c1;have:m=a:=by omega
  subst this;refine⟨c2, ?_⟩;simp only[nY];generalize (c_ l m).1=t at*;generalize (c_ l m).2.1=x at*;rw[←c4,←h3];have g1:l.drop x=(l.drop x).take 4++l.drop (x+4):=by
   rw[←List.drop_drop];exact(cr 4 (l.drop x)).symm
  have g2:l.drop m=(l.take x).drop m++l.drop x:=by
   rw[List.drop_take];have:=(cr (x-m) (l.drop m)).symm;rw[List.drop_drop,show m+(x-m)=x by omega] at this;exact this
  rw[bN,←g1];exact g2
 ·cases h
theorem EJ(p:List UInt8):(recAt p p.length).2.2=false:=by
 cases h:(recAt p p.length).2.2 with
 |false=>rfl
 |true=>
  obtain⟨_,e⟩:=zi (Nat.le_refl _) h;have:=congrArg List.length e;have:=A_ (recAt p p.length).1;simp at*;omega
theorem EK{t:List UInt8}(h:qc t)(p:List UInt8){n:Nat}(hn:n<(nY t).length):(recAt (p++(nY t).take n) p.length).2.2=false:=by
 cases hh:(recAt (p++(nY t).take n) p.length).2.2 with
 |false=>rfl
 |true=>
  have hle:=xu (p++(nY t).take n) p.length hh;obtain⟨h1,e⟩:=zi (by simp) hh;obtain⟨u,hu⟩:∃u,u=recAt (p++(nY t).take n) p.length:=⟨_,rfl⟩
  rw[←hu] at e h1 hle;rw[List.drop_left] at e;have hb:=tw h p [];have hb2:=tw h1 p ((p++(nY t).take n).drop u.2.1++(nY t).drop n);have e3:nY u.1++((p++(nY t).take n).drop u.2.1++(nY t).drop n)=nY t++[]:=by
   rw[←bN,←e,cr,dp]
  rw[e3,hb] at hb2;have q1:t=u.1:=congrArg Prod.fst hb2;have q2:=congrArg List.length e;rw[←q1] at q2;simp only[eD,ax] at q2;omega
def iP(ts:List (List UInt8)):List UInt8:=ts.flatMap nY
theorem oB(t:List UInt8)(ts:List (List UInt8)):iP (t::ts)=nY t++iP ts:=rfl
theorem qV(a b:List (List UInt8)):iP (a++b)=iP a++iP b:=by simp[iP]
theorem xq:∀(ts:List (List UInt8)) (p:List UInt8) (acc:List (List UInt8)) (d n:Nat),(∀t∈ts,qc t)→n≤(iP ts).length→n<d→
  ∃k,k≤ts.length∧mX (p++(iP ts).take n) d p.length acc=(acc++ts.take k,p.length+(iP (ts.take k)).length)∧(iP (ts.take k)).length≤n∧(k<ts.length→n<(iP (ts.take (k+1))).length)
 |[],p,acc,d,n,h,hn,hd=>by
  refine⟨0,Nat.le_refl _, ?_,Nat.zero_le _,fun c=>absurd c (by simp)⟩;cases d with
  |zero=>omega
  |succ d=>
   have:p++(iP []).take n=p:=by simp[iP]
   rw[this,mX,if_neg (by rw[EJ];simp)];simp[iP]
 |t::ts,p,acc,d,n,h,hn,hd=>by
  have ht:=h t (bf ..);cases d with
  |zero=>omega
  |succ d=>
   by_cases c:n<(nY t).length
   ·refine⟨0,Nat.zero_le _, ?_,Nat.zero_le _,fun _=>by simpa [iP] using c⟩;rw[oB,List.take_append_of_le_length (by omega),mX,if_neg (by rw[EK ht p c];simp)];simp[iP]
   ·have hp:=A_ t;rw[oB,ax] at hn;obtain⟨k,h1,h2,h3,h4⟩:=xq ts (p++nY t) (acc++[t]) d (n-(nY t).length) (fun x hx=>h x (bo _ hx)) (by omega) (by omega);have e:p++(iP (t::ts)).take n=p++(nY t++(iP ts).take (n-(nY t).length)):=by
     rw[oB,List.take_append,aa (by omega)]
    refine⟨k+1,by simp only[bK];omega, ?_, ?_, ?_⟩
    ·rw[e,mX,tw ht,if_pos rfl];simp only;rw[bN,ax] at h2;rw[h2];simp only[List.take_succ_cons,oB,ax,bN,List.cons_append,List.nil_append,Nat.add_assoc]
    ·simp only[List.take_succ_cons,oB,ax];omega
    ·intro c2;simp only[bK] at c2;have:=h4 (by omega);rw[List.take_succ_cons,oB,ax];omega
theorem A9{ts:List (List UInt8)}(h:∀t∈ts,qc t){n:Nat}(hn:n≤(iP ts).length):
  ∃k,k≤ts.length∧nv ((iP ts).take n)=(ts.take k,(iP (ts.take k)).length)∧(iP (ts.take k)).length≤n∧(k<ts.length→n<(iP (ts.take (k+1))).length):=by
 obtain⟨k,h1,h2,h3⟩:=xq ts [] [] (((iP ts).take n).length+1) n h hn (by rw[eD];omega);refine⟨k,h1, ?_,h3⟩;simpa [nv] using h2
theorem mH{ts:List (List UInt8)}{i k:Nat}(h:i≤k):(iP (ts.take i)).length≤(iP (ts.take k)).length:=by
 have e:ts.take k=ts.take i++(ts.drop i).take (k-i):=by
  rw[←List.take_add];congr 1;omega
 rw[e,qV,ax];omega
theorem Cz{ts:List (List UInt8)}(h:∀t∈ts,qc t):nv (iP ts)=(ts,(iP ts).length):=by
 obtain⟨k,h1,h2,h3,h4⟩:=A9 h (Nat.le_refl _);rw[List.take_length] at h2;have hk:k=ts.length:=by
  by_cases c:k<ts.length
  ·have:=h4 c;have:=mH (ts:=ts) (i:=k+1) (k:=ts.length) (by omega);rw[List.take_length] at this;omega
  ·omega
 rw[h2,hk,List.take_length]
theorem uj(ts:List (List UInt8))(k:Nat):(iP ts).take (iP (ts.take k)).length=iP (ts.take k):=by
 have e:iP ts=iP (ts.take k)++iP (ts.drop k):=by rw[←qV,cr]
 rw[e,List.take_left]
def ld(l:List Int)(x:Int):List Int:=l.filter (fun y=>decide (y<x))++[x]++l.filter (fun y=>decide (x<y))
def kC(l:List Int)(x:Int):List Int:=if x∈l then l else ld l x
def aR(a b:List Int):List Int:=(a++b).foldl kC []
abbrev yX(l:List Int):Prop:=l.Pairwise (·<·)
theorem AI:∀{a b:List Int},yX a→yX b→(∀x,x∈a↔x∈b)→a=b
 |[],[],_,_,_=>rfl
 |[],y::b,_,_,h=>absurd ((h y).2 (bf ..)) (by simp)
 |x::a,[],_,_,h=>absurd ((h x).1 (bf ..)) (by simp)
 |x::a,y::b,ha,hb,h=>by
  obtain⟨ha1,ha2⟩:=List.pairwise_cons.1 ha;obtain⟨hb1,hb2⟩:=List.pairwise_cons.1 hb;have e:x=y:=by
   rcases List.mem_cons.1 ((h x).1 (bf ..)) with q|q
   ·exact q
   ·rcases List.mem_cons.1 ((h y).2 (bf ..)) with q'|q'
    ·exact q'.symm
    ·have:=ha1 y q';have:=hb1 x q;omega
  subst e;congr 1;refine AI ha2 hb2 fun z=>⟨fun hz=> ?_,fun hz=> ?_⟩
  ·rcases List.mem_cons.1 ((h z).1 (bo _ hz)) with q|q
   ·have:=ha1 z hz;omega
   ·exact q
  ·rcases List.mem_cons.1 ((h z).2 (bo _ hz)) with q|q
   ·have:=hb1 z hz;omega
   ·exact q
theorem oS{l:List Int}{x z:Int}:z∈ld l x↔z=x∨z∈l:=by
 simp only[ld,iC,fN,decide_eq_true_eq,gz];constructor
 ·rintro ((⟨h,_⟩|h)|⟨h,_⟩)
  ·exact .inr h
  ·exact .inl h
  ·exact .inr h
 ·rintro (h|h)
  ·exact .inl (.inr h)
  ·by_cases c:z<x
   ·exact .inl (.inl ⟨h,c⟩)
   ·by_cases c2:z=x
    ·exact .inl (.inr c2)
    ·exact .inr ⟨h,by omega⟩
theorem uu{l:List Int}{x:Int}(h:yX l):yX (ld l x):=by
 simp only[ld,yX,List.pairwise_append,List.pairwise_singleton,fN,decide_eq_true_eq,gz,iC];refine⟨⟨h.filter _,trivial, ?_⟩,h.filter _, ?_⟩
 ·rintro a ⟨_,ha⟩ b rfl;exact ha
 ·rintro a (⟨_,ha⟩|rfl) b ⟨_,hb⟩<;>omega
theorem GW{l:List Int}{x z:Int}:z∈kC l x↔z=x∨z∈l:=by
 unfold kC;split
 ·rename_i h;constructor
  ·exact .inr
  ·rintro (rfl|q)
   ·exact h
   ·exact q
 ·exact oS
theorem GY{l:List Int}{x:Int}(h:yX l):yX (kC l x):=by
 unfold kC;split
 ·exact h
 ·exact uu h
theorem zu:∀(l acc:List Int) (z:Int),z∈l.foldl kC acc↔z∈l∨z∈acc
 |[],acc,z=>by simp
 |x::l,acc,z=>by
  simp only[fa,zu l,GW,uK];constructor
  ·rintro (h|h|h)
   ·exact .inl (.inr h)
   ·exact .inl (.inl h)
   ·exact .inr h
  ·rintro ((h|h)|h)
   ·exact .inr (.inl h)
   ·exact .inl h
   ·exact .inr (.inr h)
theorem zw:∀(l acc:List Int),yX acc→yX (l.foldl kC acc)
 |[],acc,h=>h
 |x::l,acc,h=>zw l _ (GY h)
theorem n8(a b:List Int):yX (aR a b):=zw _ _ List.Pairwise.nil
theorem je(a b:List Int)(z:Int):z∈aR a b↔z∈a∨z∈b:=by unfold aR;rw[zu];simp
theorem x5(l:List Int)(x:Int):(kC l x).length≤l.length+1:=by
 unfold kC;split
 ·omega
 ·simp only[ld,ax,bZ];have:∀l:List Int,(l.filter fun y=>decide (y<x)).length+(l.filter fun y=>decide (x<y)).length≤l.length:=by
   intro l
   induction l with
   |nil=>simp
   |cons y l ih=>
    simp only[iX];by_cases h1:y<x
    ·have h2:¬x<y:=by omega
     simp[h1,h2];omega
    ·by_cases h2:x<y
     ·simp[h1,h2];omega
     ·simp[h1,h2];omega
  have:=this l;omega
theorem sG:∀(l acc:List Int),(l.foldl kC acc).length≤l.length+acc.length
 |[],acc=>by simp
 |x::l,acc=>by
  have h1:=sG l (kC acc x);have h2:=x5 acc x;simp only[fa,bK];omega
def dedup:List Int→List Int
 |[]=>[]
 |x::l=>x::(go x l)
where go:Int→List Int→List Int
 |_,[]=>[]
 |p,x::l=>if x=p then go x l else x::go x l
theorem re:∀(l:List Int) (p z:Int),z∈dedup.go p l→z∈l
 |[],p,z,h=>by simp[dedup.go] at h
 |x::l,p,z,h=>by
  simp only[dedup.go] at h;split at h
  ·exact bo _ (re l x z h)
  ·rcases List.mem_cons.1 h with rfl|h
   ·exact bf ..
   ·exact bo _ (re l x z h)
theorem qS:∀(l:List Int) (p z:Int),z∈l→z=p∨z∈dedup.go p l
 |[],p,z,h=>by simp at h
 |x::l,p,z,h=>by
  simp only[dedup.go];split
  ·rename_i e;subst e;rcases List.mem_cons.1 h with q|q
   ·exact .inl q
   ·exact qS l x z q
  ·rcases List.mem_cons.1 h with q|q
   ·exact .inr (by rw[q];exact bf ..)
   ·rcases qS l x z q with q|q
    ·exact .inr (by rw[q];exact bf ..)
    ·exact .inr (bo _ q)
theorem uz:∀(l:List Int) (p:Int),l.Pairwise (·≤·)→(∀z∈l,p≤z)→yX (dedup.go p l)∧∀z∈dedup.go p l,p<z
 |[],p,_,_=>by simp[dedup.go]
 |x::l,p,h,hp=>by
  obtain⟨h1,h2⟩:=List.pairwise_cons.1 h;have hx:=hp x (bf ..);obtain⟨k1,k2⟩:=uz l x h2 h1;simp only[dedup.go];split
  ·rename_i e;exact⟨k1,fun z hz=>by have:=k2 z hz;omega⟩
  ·rename_i e;refine⟨List.pairwise_cons.2 ⟨k2,k1⟩,fun z hz=> ?_⟩;rcases List.mem_cons.1 hz with rfl|hz
   ·omega
   ·have:=k2 z hz;omega
theorem Fc{l:List Int}(h:l.Pairwise (·≤·)):yX (dedup l):=by
 cases l with
 |nil=>exact List.Pairwise.nil
 |cons x l=>
  obtain⟨h1,h2⟩:=List.pairwise_cons.1 h;obtain⟨k1,k2⟩:=uz l x h2 h1;exact List.pairwise_cons.2 ⟨k2,k1⟩
theorem Fb{l:List Int}{z:Int}:z∈dedup l↔z∈l:=by
 cases l with
 |nil=>simp[dedup]
 |cons x l=>
  simp only[dedup,uK];constructor
  ·rintro (h|h)
   ·exact .inl h
   ·exact .inr (re l x z h)
  ·rintro (h|h)
   ·exact .inl h
   ·exact qS l x z h
theorem yS(l:List Int):Lib.compact l=dedup l:=by
 have key:∀(d:Array Int) (m:Nat) (l:List Int) (p:Int),0<m→m+l.length=d.size→d.toList.drop m=l→d[m-1]! =p→((List.range' m l.length).filter (Lib.keeps d)).map (d[·]!)=dedup.go p l:=by
  intro d m l
  induction l generalizing m with
  |nil=>intro p _ _ _ _;rfl
  |cons x l ih=>
   intro p hm hl hd hp;have hlt:m<d.size:=by simp at hl;omega
   have hx:d[m]! =x:=by
    rw[getElem!_pos d m hlt];have:=congrArg (·[0]?) hd;simpa [hlt] using this
   have ih':=ih (m+1) x (by omega) (by simp at hl;omega) (by rw[←List.tail_drop,hd];rfl) (by simpa using hx);simp only[bK,List.range'_succ,iX,dedup.go];by_cases e:x=p
   ·have hk:Lib.keeps d m=false:=Lib.keeps_neg hm (by rw[hx,hp,e]);rw[if_pos e,hk];simpa using ih'
   ·have hk:Lib.keeps d m=true:=Lib.keeps_pos (by rw[hx,hp];exact e);rw[if_neg e,hk];simp only[if_true,bq,hx,ih']
 cases l with
 |nil=>rfl
 |cons x l=>
  have hk:Lib.keeps (x::l).toArray 0=true:=Lib.keeps_lt_one _ 0 (by omega);unfold Lib.compact Lib.compactUpTo;rw[List.range_eq_range',bK,List.range'_succ,iX,hk];simp only[if_true,bq,dedup];congr 1;exact key (x::l).toArray 1 l x (by omega) (by simp;omega) (by simp) (by simp)
theorem BC(l:List Int):(Lib.compact l).length≤l.length:=by
 unfold Lib.compact Lib.compactUpTo;rw[de];refine Nat.le_trans (bP _ _) ?_;simp
theorem ta(a b:List Int):Lib.compact (lT (a++b))=aR a b:=by
 rw[yS];have hs:(lT (a++b)).Pairwise (·≤·):=by
  have:=List.pairwise_mergeSort (le:=fun x y:Int=>decide (x≤y)) (fun a b c h1 h2=>by simp only[decide_eq_true_eq] at*;omega) (fun a b=>by simp only[Bool.or_eq_true,decide_eq_true_eq];omega) (a++b);exact this.imp fun h=>by simpa using h
 refine AI (Fc hs) (n8 a b) fun z=> ?_
 rw[Fb,je];simp[lT]
end Mx
namespace Mx
open Go
variable {M:Nat→Option Body}
theorem fc.al(h:fc.k M)(l:List Int)(hx:l.length≤1048576):run M 134 [.c (ints l)] []=some (.c (.sl true 1 (az l)),[]):=by
 have h1:l.length≤4294967296:=by omega
 refine aA (b:=fc.m) h ⟨0, ?_⟩;simp[ba,fc.m,fc.b,ab,aa,h1]
def M5(l:List Int)(x:Int)(i:Nat)(s:List Int)(m:Nat×Nat):St:={t:=[(0,.c (ints l)),(1,.c (I x)),(5,.c (.row 8 m.1 0 s.length)),(6,.c (I i))],o:=[(8,⟨m.1,1,true,false,az s⟩)],n:=m.2}
def OE(l:List Int)(x:Int)(s:List Int)(m:Nat×Nat):St:={t:=[(0,.c (ints l)),(1,.c (I x)),(5,.c (.row 8 m.1 0 s.length)),(6,.c (I l.length)),(12,.c (.bool false))],o:=[(8,⟨m.1,1,true,false,az s⟩)],n:=m.2}
def M4(l:List Int)(x:Int)(i:Nat)(s:List Int)(m:Nat×Nat):St:={t:=[(0,.c (ints l)),(1,.c (I x)),(5,.c (.row 8 m.1 0 s.length)),(7,.c (I i))],o:=[(8,⟨m.1,1,true,false,az s⟩)],n:=m.2}
def OD(l:List Int)(x:Int)(s:List Int)(m:Nat×Nat):St:={t:=[(0,.c (ints l)),(1,.c (I x)),(5,.c (.row 8 m.1 0 s.length)),(7,.c (I l.length)),(35,.c (.bool false))],o:=[(8,⟨m.1,1,true,false,az s⟩)],n:=m.2}
theorem wa(p:Int→Bool):∀(l s:List Int),l.foldl (fun s a=>if p a=true then s++[a] else s) s=s++l.filter p
 |[],s=>by simp
 |a::l,s=>by
  rw[fa,wa p l,iX];by_cases h:p a=true<;>simp[h]
theorem po(s:List Int)(a:Int):az (s++[a])=az s++[[I a]]:=by simp[az]
theorem aN(s:List Int):(az s).length=s.length:=by simp[az]
theorem b9.al(h:b9.k M)(l:List Int)(x:Int)(hl:l.length≤16777216):run M 133 [.c (ints l),.c (I x)] []=some (.c (.sl true 1 (az (ld l x))),[]):=by
 refine aA (b:=b9.m) h ⟨l.length+1, ?_⟩;obtain⟨g,hr⟩:=jK (f:=ct (run M) (l.length+1) b9.l0) l (fun s a=>if decide (a<x)=true then s++[a] else s) (fun i s=>s.length≤i) (M5 l x) 0 (OE l x)
  (fun i h s hs=>by split<;>(try simp)<;>omega)
  (fun i hi s m hs=>by
   obtain⟨v,m⟩:=m;have e5:=cA (i:=i) (by omega);have e6:s.length+1≤4294967296:=by omega
   have e9:=aN s;simp only[aE];by_cases c:l[i]<x
   ·simp only[c,decide_true,if_true,M5,po];generalize az s=rr at*;simp (maxSteps:=9^9) [b9.l0,hi,c,e5,e6,e9,aa]
   ·simp only[c,decide_false,au,if_false];simp (maxSteps:=9^9) [b9.l0,M5,hi,c,e5])
  (fun s m hs=>by
   obtain⟨v,m⟩:=m;simp only[aE];simp (maxSteps:=9^9) [b9.l0,M5,OE]) [] (by simp)
 obtain⟨g',hr'⟩:=jK (f:=ct (run M) (l.length+1) b9.l1) l (fun s a=>if decide (x<a)=true then s++[a] else s) (fun i s=>s.length≤l.length+1+i) (M4 l x) 2 (OD l x)
  (fun i h s hs=>by split<;>(try simp)<;>omega)
  (fun i hi s m hs=>by
   obtain⟨v,m⟩:=m;have e5:=cA (i:=i) (by omega);have e6:s.length+1≤4294967296:=by omega
   have e9:=aN s;simp only[aE];by_cases c:x<l[i]
   ·simp only[c,decide_true,if_true,M4,po];generalize az s=rr at*;simp (maxSteps:=9^9) [b9.l1,hi,c,e5,e6,e9,aa]
   ·simp only[c,decide_false,au,if_false];simp (maxSteps:=9^9) [b9.l1,M4,hi,c,e5])
  (fun s m hs=>by
   obtain⟨v,m⟩:=m;simp only[aE];simp (maxSteps:=9^9) [b9.l1,M4,OD]) (l.filter (fun y=>decide (y<x))++[x]) (by have:=bP (fun y=>decide (y<x)) l;simp;omega)
 rw[wa] at hr hr';have hfl:=bP (fun y=>decide (y<x)) l;have e6:(l.filter (fun y=>decide (y<x))).length+1≤4294967296:=by omega
 have e9:=aN (l.filter (fun y=>decide (y<x)));have e10:=aN (l.filter (fun y=>decide (y<x))++[x]++l.filter (fun y=>decide (x<y)));have e11:(l.filter (fun y=>decide (y<x))++[x]++l.filter (fun y=>decide (x<y))).length=(l.filter (fun y=>decide (y<x))).length+((l.filter (fun y=>decide (x<y))).length+1):=by simp only[ax,bZ];omega
 rw[e11] at e10;have e12:=po (l.filter (fun y=>decide (y<x))) x;unfold ld;simp only[List.nil_append] at hr;simp only[M5,OE,dM] at hr;simp only[M4,OD,e12,e11,ax,bZ] at hr';generalize az (l.filter (fun y=>decide (y<x))++[x]++l.filter (fun y=>decide (x<y)))=r2 at*;generalize az (l.filter (fun y=>decide (y<x)))=r1 at*;simp[az] at hr;simp at hr';simp (maxSteps:=9^9) [ba,b9.m,b9.b,ab,hr,hr',e6,e9,e10,aa]
structure GX where
 w:Nat
 v8:Nat
 v1:Nat
 v2:Nat
 r8:List (List T)
 r1:List (List T)
 n:Nat
def H4(s:List Int)(x:GX):List (Nat×Ob):=match x.w with
 |0=>[(8,⟨x.v8,1,true,false,az s⟩)]
 |_=>[(8,⟨x.v8,1,true,false,x.r8⟩),(12700,⟨x.v1,1,true,false,az s⟩)]
def H0(s:List Int)(x:GX):T:=match x.w with
 |0=> .row 8 x.v8 0 s.length
 |_=> .row 12700 x.v1 0 s.length
def gO(s:List Int)(x:GX):List (Nat×Ob):=match x.w with
 |0=>[(8,⟨x.v8,1,true,false,az s⟩)]
 |1=>[(8,⟨x.v8,1,true,false,x.r8⟩),(12700,⟨x.v1,1,true,false,az s⟩)]
 |2=>[(8,⟨x.v8,1,true,false,x.r8⟩),(14600,⟨x.v2,1,true,false,az s⟩)]
 |_=>[(8,⟨x.v8,1,true,false,x.r8⟩),(12700,⟨x.v1,1,true,false,x.r1⟩),(14600,⟨x.v2,1,true,false,az s⟩)]
def gR(s:List Int)(x:GX):T:=match x.w with
 |0=> .row 8 x.v8 0 s.length
 |1=> .row 12700 x.v1 0 s.length
 |_=> .row 14600 x.v2 0 s.length
theorem GX.of{p:GX→Prop}(w r8 r1)(h:∃v8 v1 v2 n,p ⟨w,v8,v1,v2,r8,r1,n⟩):∃x,p x:=by
 obtain⟨v8,v1,v2,n,h⟩:=h;exact⟨_,h⟩
def GS(a b:List Int)(i:Nat)(s:List Int)(x:GX):St:={t:=[(0,.c (ints a)),(1,.c (ints b)),(5,.c (H0 s x)),(6,.c (I i))],o:=H4 s x,n:=x.n}
def M6(a b:List Int)(s:List Int)(x:GX):St:={t:=[(0,.c (ints a)),(1,.c (ints b)),(5,.c (H0 s x)),(6,.c (I a.length)),(12,.c (.bool false))],o:=H4 s x,n:=x.n}
def wN(b:List Int)(i:Nat)(s:List Int)(x:GX):St:={t:=[(1,.c (ints b)),(5,.c (gR s x)),(7,.c (I i))],o:=gO s x,n:=x.n}
def DQ(b:List Int)(s:List Int)(x:GX):St:={t:=[(1,.c (ints b)),(5,.c (gR s x)),(7,.c (I b.length)),(31,.c (.bool false))],o:=gO s x,n:=x.n}
theorem kY(l:List Int):(az l).all (fun r=>r.all T.scalar)=true:=by simp[az,T.scalar]
theorem aU.Mu(k1:bj.k M)(k2:b9.k M)(a b:List Int)(K i:Nat)(hi:i<a.length)(ha:a.length≤1048576)(s:List Int)(hs:s.length≤i)(x:GX):
  ∃y,ct (run M) K aU.l0 (GS a b i s x)=some (.normal,GS a b (i+1) (kC s a[i]) y):=by
 have h1:=bj.al k1 s a[i] (by omega);have h2:=b9.al k2 s a[i] (by omega);have e5:=cA (i:=i) (by omega);have e9:=aN s;have e10:=aN (ld s a[i]);have hfl:=kY (ld s a[i]);simp only[ints] at h1 h2;obtain⟨w,v8,v1,v2,r8,r1,n⟩:=x;unfold kC;by_cases c:a[i]∈s
 ·rw[if_pos c];rw[decide_eq_true c] at h1;refine GX.of w r8 r1 ?_
  match w with
  |0=>simp only[GS,H4,H0];generalize az s=rr at*;simp (maxSteps:=9^9) [aU.l0,hi,h1,e5,e9,aa]
  |w+1=>simp only[GS,H4,H0];generalize az s=rr at*;simp (maxSteps:=9^9) [aU.l0,hi,h1,e5,e9,aa]
 ·rw[if_neg c];rw[decide_eq_false c] at h1
  match w with
  |0=>
   refine GX.of 1 (az s) r1 ?_;simp only[GS,H4,H0];generalize az (ld s a[i])=r2 at*;generalize az s=rr at*;simp (maxSteps:=9^9) [aU.l0,hi,h1,h2,e5,e9,e10,hfl,aa]
  |w+1=>
   refine GX.of 1 r8 r1 ?_;simp only[GS,H4,H0];generalize az (ld s a[i])=r2 at*;generalize az s=rr at*;simp (maxSteps:=9^9) [aU.l0,hi,h1,h2,e5,e9,e10,hfl,aa]
theorem aU.Mt(k1:bj.k M)(k2:b9.k M)(b:List Int)(K i:Nat)(hi:i<b.length)(hb:b.length≤1048576)(s:List Int)(hs:s.length≤1048576+i)(x:GX):
  ∃y,ct (run M) K aU.l1 (wN b i s x)=some (.normal,wN b (i+1) (kC s b[i]) y):=by
 have h1:=bj.al k1 s b[i] (by omega);have h2:=b9.al k2 s b[i] (by omega);have e5:=cA (i:=i) (by omega);have e9:=aN s;have e10:=aN (ld s b[i]);have hfl:=kY (ld s b[i]);simp only[ints] at h1 h2;obtain⟨w,v8,v1,v2,r8,r1,n⟩:=x;unfold kC;by_cases c:b[i]∈s
 ·rw[if_pos c];rw[decide_eq_true c] at h1;refine GX.of w r8 r1 ?_
  match w with
  |0=>simp only[wN,gO,gR];generalize az s=rr at*;simp (maxSteps:=9^9) [aU.l1,hi,h1,e5,e9,aa]
  |1=>simp only[wN,gO,gR];generalize az s=rr at*;simp (maxSteps:=9^9) [aU.l1,hi,h1,e5,e9,aa]
  |2=>simp only[wN,gO,gR];generalize az s=rr at*;simp (maxSteps:=9^9) [aU.l1,hi,h1,e5,e9,aa]
  |w+3=>simp only[wN,gO,gR];generalize az s=rr at*;simp (maxSteps:=9^9) [aU.l1,hi,h1,e5,e9,aa]
 ·rw[if_neg c];rw[decide_eq_false c] at h1
  match w with
  |0=>
   refine GX.of 2 (az s) r1 ?_;simp only[wN,gO,gR];generalize az (ld s b[i])=r2 at*;generalize az s=rr at*;simp (maxSteps:=9^9) [aU.l1,hi,h1,h2,e5,e9,e10,hfl,aa]
  |1=>
   refine GX.of 3 r8 (az s) ?_;simp only[wN,gO,gR];generalize az (ld s b[i])=r2 at*;generalize az s=rr at*;simp (maxSteps:=9^9) [aU.l1,hi,h1,h2,e5,e9,e10,hfl,aa]
  |2=>
   refine GX.of 2 r8 r1 ?_;simp only[wN,gO,gR];generalize az (ld s b[i])=r2 at*;generalize az s=rr at*;simp (maxSteps:=9^9) [aU.l1,hi,h1,h2,e5,e9,e10,hfl,aa]
  |w+3=>
   refine GX.of 3 r8 r1 ?_;simp only[wN,gO,gR];generalize az (ld s b[i])=r2 at*;generalize az s=rr at*;simp (maxSteps:=9^9) [aU.l1,hi,h1,h2,e5,e9,e10,hfl,aa]
theorem aU.al(h:aU.k M)(a b:List Int)(ha:a.length≤1048576)(hb:b.length≤1048576):run M 43 [.c (ints a),.c (ints b)] []=some (.c (.sl true 1 (az (aR a b))),[]):=by
 obtain⟨h0,k1,k2⟩:=h;refine aA (b:=aU.m) h0 ⟨a.length+b.length+1, ?_⟩;obtain⟨g,hr⟩:=jK (f:=ct (run M) (a.length+b.length+1) aU.l0) a kC (fun i s=>s.length≤i) (GS a b) 0 (M6 a b)
  (fun i h s hs=>by have:=x5 s a[i];omega)
  (fun i hi s x hs=>aU.Mu k1 k2 a b _ i hi ha s hs x)
  (fun s x hs=>by
   obtain⟨w,v8,v1,v2,r8,r1,n⟩:=x;refine GX.of w r8 r1 ?_
   match w with
   |0=>simp only[GS,M6,H4,H0];simp (maxSteps:=9^9) [aU.l0]
   |w+1=>simp only[GS,M6,H4,H0];simp (maxSteps:=9^9) [aU.l0]) [] (by simp)
 have hla:=sG a [];obtain⟨g',hr'⟩:=jK (f:=ct (run M) (a.length+b.length+1) aU.l1) b kC (fun i s=>s.length≤1048576+i) (wN b) 2 (DQ b)
  (fun i h s hs=>by have:=x5 s b[i];omega)
  (fun i hi s x hs=>aU.Mt k1 k2 b _ i hi hb s hs x)
  (fun s x hs=>by
   obtain⟨w,v8,v1,v2,r8,r1,n⟩:=x;refine GX.of w r8 r1 ?_
   match w with
   |0=>simp only[wN,DQ,gO,gR];simp (maxSteps:=9^9) [aU.l1]
   |1=>simp only[wN,DQ,gO,gR];simp (maxSteps:=9^9) [aU.l1]
   |2=>simp only[wN,DQ,gO,gR];simp (maxSteps:=9^9) [aU.l1]
   |w+3=>simp only[wN,DQ,gO,gR];simp (maxSteps:=9^9) [aU.l1]) (a.foldl kC []) (by simp at hla ⊢;omega)
 have hr2:=fun x=>gT (hr x) (show a.length+1≤a.length+b.length+1 by omega)
 have hr3:=fun x=>gT (hr' x) (show b.length+1≤a.length+b.length+1 by omega)
 have hj:b.foldl kC (a.foldl kC [])=aR a b:=by rw[aR,List.foldl_append]
 rw[hj] at hr3;have e9:=aN (aR a b);generalize aR a b=j at*;generalize a.foldl kC []=s at*;have hr4:∀y:GX,∃z:GX,eZ (ct (run M) (a.length+b.length+1) aU.l1) (a.length+b.length+1) (wN b 0 s y)=some (.exit 2,DQ b j z):=fun y=>⟨_,hr3 y⟩
 have hq:=hr2 ⟨0,2000016,0,0,[],[],2000064⟩;generalize g ⟨0,2000016,0,0,[],[],2000064⟩=y at hq;clear hr hr2 hr' hr3;obtain⟨w,v8,v1,v2,r8,r1,n⟩:=y
 match w with
 |0=>
  obtain⟨⟨w',u8,u1,u2,q8,q1,m⟩,hz⟩:=hr4 ⟨0,v8,v1,v2,r8,r1,n+16⟩;simp[GS,M6,H4,H0,az] at hq
  match w' with
  |0=>simp[wN,DQ,gO,gR,az] at hz;simp only[az] at e9 ⊢;simp (maxSteps:=9^9) [ba,aU.m,aU.b,ab,hq,hz,e9,aa]
  |1=>simp[wN,DQ,gO,gR,az] at hz;simp only[az] at e9 ⊢;simp (maxSteps:=9^9) [ba,aU.m,aU.b,ab,hq,hz,e9,aa]
  |2=>simp[wN,DQ,gO,gR,az] at hz;simp only[az] at e9 ⊢;simp (maxSteps:=9^9) [ba,aU.m,aU.b,ab,hq,hz,e9,aa]
  |w'+3=>simp[wN,DQ,gO,gR,az] at hz;simp only[az] at e9 ⊢;simp (maxSteps:=9^9) [ba,aU.m,aU.b,ab,hq,hz,e9,aa]
 |w+1=>
  obtain⟨⟨w',u8,u1,u2,q8,q1,m⟩,hz⟩:=hr4 ⟨1,v8,v1,v2,r8,r1,n+16⟩;simp[GS,M6,H4,H0,az] at hq
  match w' with
  |0=>simp[wN,DQ,gO,gR,az] at hz;simp only[az] at e9 ⊢;simp (maxSteps:=9^9) [ba,aU.m,aU.b,ab,hq,hz,e9,aa]
  |1=>simp[wN,DQ,gO,gR,az] at hz;simp only[az] at e9 ⊢;simp (maxSteps:=9^9) [ba,aU.m,aU.b,ab,hq,hz,e9,aa]
  |2=>simp[wN,DQ,gO,gR,az] at hz;simp only[az] at e9 ⊢;simp (maxSteps:=9^9) [ba,aU.m,aU.b,ab,hq,hz,e9,aa]
  |w'+3=>simp[wN,DQ,gO,gR,az] at hz;simp only[az] at e9 ⊢;simp (maxSteps:=9^9) [ba,aU.m,aU.b,ab,hq,hz,e9,aa]
theorem A5(h:M 135=some (.ext vE))(zs:List Int)(hz:zs.length≤4294967296):run M 135 [.c (.row 0 0 0 zs.length)] [(0,⟨0,1,true,false,az zs⟩)]=some (.lN [],[(0,⟨0,1,true,false,az (lT zs)⟩)]):=by
 refine zZ h ?_;simp[vE,qh,sX,hz]
theorem vG(h:M 136=some (.ext oT))(zs:List Int)(hz:zs.length≤4294967296):
  run M 136 [.c (.row 0 0 0 zs.length)] [(0,⟨0,1,true,false,az zs⟩)]=some (.c (.row 0 0 0 (Lib.compact zs).length),[(0,⟨0,1,true,false,az (Lib.compact zs++List.replicate (zs.length-(Lib.compact zs).length) 0)⟩)]):=by
 refine zZ h ?_;simp[oT,qh,sX,hz]
theorem fM.al(h:fM.k M)(a b:List Int)(ha:a.length≤1048576)(hb:b.length≤1048576):run M 44 [.c (ints a),.c (ints b)] []=some (.c (.sl true 1 (az (aR a b))),[]):=by
 obtain⟨h0,k1,k2,k3⟩:=h;have h1:=fc.al k1 a ha;have hab:(a++b).length≤4294967296:=by simp;omega
 have h2:=A5 k2 (a++b) hab;have hsl:(lT (a++b)).length=(a++b).length:=by simp[lT]
 have h3:=vG k3 (lT (a++b)) (by rw[hsl];exact hab);rw[ta] at h3;have hjl:(aR a b).length≤(a++b).length:=by
  have:=sG (a++b) [];simp only[aR];simpa using this
 refine aA (b:=fM.m) h0 ⟨0, ?_⟩;rw[hsl] at h3;have e1:az (a++b)=az a++az b:=by simp[az]
 have e2:az (aR a b++List.replicate ((a++b).length-(aR a b).length) 0)=az (aR a b)++az (List.replicate ((a++b).length-(aR a b).length) 0):=by simp[az]
 rw[e1] at h2;rw[e2] at h3;simp only[ax] at h2 h3 hab hjl;have l1:=aN a;have l2:=aN b;have l3:=aN (aR a b);have l4:(az (List.replicate (a.length+b.length-(aR a b).length) 0)).length=a.length+b.length-(aR a b).length:=by simp[az]
 have s1:=kY (lT (a++b));have s2:=kY (aR a b);have l5:=aN (lT (a++b));rw[hsl] at l5;simp only[ax] at l5;simp only[ints] at h1 ⊢;generalize az (List.replicate (a.length+b.length-(aR a b).length) 0)=rz at*;generalize az (lT (a++b))=rs at*;generalize aR a b=j at*;generalize az j=rj at*;have e5:a.length≤4294967296:=by omega
 have e6:j.length≤rj.length+rz.length:=by omega
 generalize az a=ra at*;generalize az b=rb at*;simp (maxSteps:=9^9) [ba,fM.m,fM.b,ab,h1,h2,h3,hab,l1,l2,l3,l4,l5,aa]
theorem gP.al(h:gP.k M)(l:List nE)(hl:l.length≤1048576):run M 239 [.c (jM l)] []=some (.c (.sl true 3 (l.map aS)),[]):=by
 refine aA (b:=gP.m) h ⟨0, ?_⟩;have e:(l.map aS).length=l.length:=by simp
 have h1:l.length≤4294967296:=by omega
 simp only[jM];generalize l.map aS=r at*;simp (maxSteps:=9^9) [ba,gP.m,gP.b,ab,e,h1,aa]
theorem iq.al(h:iq.k M)(l:List nE)(hl:l.length≤1048576):run M 241 [.c (jM l)] []=some (.c (.sl true 3 (l.map aS)),[]):=by
 refine aA (b:=iq.m) h ⟨0, ?_⟩;have e:(l.map aS).length=l.length:=by simp
 have h1:l.length≤4294967296:=by omega
 simp only[jM];generalize l.map aS=r at*;simp (maxSteps:=9^9) [ba,iq.m,iq.b,ab,e,h1,aa]
theorem eR.al(h:eR.k M)(m:bp)(hl:m.flags.length≤1048576):run M 233 [.a (ah m)] []=some (.a (jg m),[]):=by
 have h1:=gP.al h.2 m.flags hl;refine aA (b:=eR.m) h.1 ⟨0, ?_⟩;have e:(m.flags.map aS).length=m.flags.length:=by simp
 simp only[ah,jg,jM] at*;generalize m.flags.map aS=r at*;simp (maxSteps:=9^9) [ba,eR.m,eR.b,ab,setAt,h1,e,aa]
theorem fU.al(h:fU.k M)(m:bp)(hl:m.flags.length≤1048576):run M 238 [.a (ah m)] []=some (.a (jg m),[]):=by
 have h1:=iq.al h.2 m.flags hl;refine aA (b:=fU.m) h.1 ⟨0, ?_⟩;have e:(m.flags.map aS).length=m.flags.length:=by simp
 simp only[ah,jg,jM] at*;generalize m.flags.map aS=r at*;simp (maxSteps:=9^9) [ba,fU.m,fU.b,ab,setAt,h1,e,aa]
theorem ky{β γ:Type}(n:Nat){f:St→Option (Out×St)}(S:Nat→β→St)(e:Nat)(E:γ→St)
  (h1:∀i,i<n→∀x,∃y,f (S i x)=some (.normal,S (i+1) y)) (h3:∀x,∃y,f (S n x)=some (.exit e,E y)):
  ∃g:β→γ,∀x,eZ f (n+1) (S 0 x)=some (.exit e,E (g x)):=by
 refine jS (f:=f) S (fun i=>i≤n) (fun i=>n-i) (fun _=>()) (fun _ m=>(.exit e,E m)) ?_ (n+1) 0 (Nat.zero_le _) (by omega);intro i x hi;by_cases hlt:i<n
 ·left;obtain⟨y,hy⟩:=h1 i hlt x;exact⟨i+1,y,hy,hlt,by omega,rfl⟩
 ·have:i=n:=by omega
  subst this;right;obtain⟨y,hy⟩:=h3 x;exact⟨y,by simp[hy],by simp⟩
def M3(b:bA)(i:Nat)(x:kU×Nat):List (Nat×Ob):=[(1,⟨x.1.a,7,true,true,[af b]⟩),(2,⟨x.1.b,7,true,true,[tf]⟩),(3,⟨x.2,7,true,true,[[I b.gid,S b.name,I b.time,I b.df,I b.next,.row 7 x.1.c 0 i,ints b.gone]]⟩),(7,⟨x.1.c,4,true,false,(b.ae.take i).map ah⟩)]
def NO(b:bA)(i:Nat)(x:kU×Nat):St:={t:=[(1,.c (.ptr 1 x.1.a 0 0)),(2,.c (.ptr 2 x.1.b 0 0)),(3,.c (.ptr 3 x.2 0 0)),(10,.c (ae b.ae)),(11,.c (I b.ae.length)),(12,.c (I i))],o:=M3 b i x,n:=x.1.d}
def OC(b:bA)(x:kU×Nat):St:={t:=[(1,.c (.ptr 1 x.1.a 0 0)),(2,.c (.ptr 2 x.1.b 0 0)),(3,.c (.ptr 3 x.2 0 0)),(10,.c (ae b.ae)),(11,.c (I b.ae.length)),(12,.c (I b.ae.length)),(13,.c (.bool false))],o:=M3 b b.ae.length x,n:=x.1.d}
theorem iA{α:Type}(l:List α)(i:Nat)(h:i<l.length):l.take (i+1)=l.take i++[l[i]]:=List.take_succ_eq_append_getElem h
theorem cB.al(h:cB.k M)(b:bA)(hb:iL b):run M 155 [.a (af b)] []=some (.a (cm b),[]):=by
 obtain⟨h0,k1,k2⟩:=h;have hm:=hb.m;have h1:=fc.al k1 b.gone hb.g;refine aA (b:=cB.m) h0 ⟨b.ae.length+1, ?_⟩;obtain⟨g,hr⟩:=ky (f:=ct (run M) (b.ae.length+1) cB.l0) b.ae.length (NO b) 0 (OC b)
  (fun i hi x=>by
   obtain⟨⟨v1,v2,v3,n⟩,v4⟩:=x;have h2:=eR.al k2 b.ae[i] (hb.f _ (aq hi));have e5:=cA (i:=i) (by omega);have e6:i+1≤4294967296:=by omega
   have e7:((b.ae.take i).map ah).length=i:=by simp;omega
   have e8:((b.ae.take (i+1)).map ah)=(b.ae.take i).map ah++[ah b.ae[i]]:=by rw[iA _ _ hi,cg];rfl
   simp only[NO,M3,e8,aE,kU.ex];generalize (b.ae.take i).map ah=rr at*;simp only[ah,jg] at h2;simp (maxSteps:=9^9) [cB.l0,ab,setAt,hi,h2,e5,e6,e7,ah,aa];exact⟨_,_,_,_,_,⟨rfl,rfl,rfl⟩,⟨rfl,rfl,rfl,rfl⟩,rfl⟩)
  (fun x=>by
   obtain⟨⟨v1,v2,v3,n⟩,v4⟩:=x;simp only[aE,kU.ex];simp (maxSteps:=9^9) [cB.l0,ab,NO,OC,M3];exact⟨_,_,_,_,_,⟨rfl,rfl,rfl⟩,⟨rfl,rfl,rfl,rfl⟩,rfl⟩)
 have e7:(b.ae.map ah).length=b.ae.length:=by simp
 have e8:=aN b.gone;have e9:b.ae.take b.ae.length=b.ae:=by simp
 simp only[ints] at h1;simp only[NO,OC,M3,e9,List.take_zero,bF,ints] at hr
 replace hr:=fun a b c d n=>hr ⟨⟨a,b,c,d⟩,n⟩
 simp only[af,cm,ae,ints] at hr ⊢;generalize b.ae.map ah=rm at*;generalize az b.gone=rg at*;simp at hr;simp (maxSteps:=9^9) [ba,cB.m,cB.b,ab,setAt,hr,h1,e7,e8,aa]
def My(b:bA)(i:Nat)(x:kU×Nat):List (Nat×Ob):=[(1,⟨x.1.a,7,true,true,[af b]⟩),(2,⟨x.1.b,7,true,true,[tf]⟩),(3,⟨x.2,7,true,true,[[I b.gid,S b.name,I b.time,I b.df,I b.next,.row 6 x.1.c 0 i,ints b.gone]]⟩),(6,⟨x.1.c,4,true,false,(b.ae.take i).map ah⟩)]
def Nu(b:bA)(i:Nat)(x:kU×Nat):St:={t:=[(1,.c (.ptr 1 x.1.a 0 0)),(2,.c (.ptr 2 x.1.b 0 0)),(3,.c (.ptr 3 x.2 0 0)),(4,.c (I i))],o:=My b i x,n:=x.1.d}
def Oi(b:bA)(x:kU×Nat):St:={t:=[(1,.c (.ptr 1 x.1.a 0 0)),(2,.c (.ptr 2 x.1.b 0 0)),(3,.c (.ptr 3 x.2 0 0)),(4,.c (I b.ae.length)),(12,.c (.bool false))],o:=My b b.ae.length x,n:=x.1.d}
theorem cd.al(h:cd.k M)(b:bA)(hb:iL b):run M 180 [.a (af b)] []=some (.a (cm b),[]):=by
 obtain⟨h0,k2⟩:=h;have hm:=hb.m;have hg:=hb.g;refine aA (b:=cd.m) h0 ⟨b.ae.length+1, ?_⟩;obtain⟨g,hr⟩:=ky (f:=ct (run M) (b.ae.length+1) cd.l0) b.ae.length (Nu b) 0 (Oi b)
  (fun i hi x=>by
   obtain⟨⟨v1,v2,v3,n⟩,v4⟩:=x;have h2:=fU.al k2 b.ae[i] (hb.f _ (aq hi));have e5:=cA (i:=i) (by omega);have e6:i+1≤4294967296:=by omega
   have e7:((b.ae.take i).map ah).length=i:=by simp;omega
   have e8:((b.ae.take (i+1)).map ah)=(b.ae.take i).map ah++[ah b.ae[i]]:=by rw[iA _ _ hi,cg];rfl
   simp only[Nu,My,e8,aE,kU.ex];generalize (b.ae.take i).map ah=rr at*;simp only[ah,jg] at h2;simp (maxSteps:=9^9) [cd.l0,ab,setAt,hi,h2,e5,e6,e7,ah,aa];exact⟨_,_,_,_,_,⟨rfl,rfl,rfl⟩,⟨rfl,rfl,rfl,rfl⟩,rfl⟩)
  (fun x=>by
   obtain⟨⟨v1,v2,v3,n⟩,v4⟩:=x;simp only[aE,kU.ex];simp (maxSteps:=9^9) [cd.l0,ab,Nu,Oi,My];exact⟨_,_,_,_,_,⟨rfl,rfl,rfl⟩,⟨rfl,rfl,rfl,rfl⟩,rfl⟩)
 have e7:(b.ae.map ah).length=b.ae.length:=by simp
 have e8:=aN b.gone;have e9:b.ae.take b.ae.length=b.ae:=by simp
 have e6:b.gone.length≤4294967296:=by omega
 simp only[Nu,Oi,My,e9,List.take_zero,bF,ints] at hr
 replace hr:=fun a b c d n=>hr ⟨⟨a,b,c,d⟩,n⟩
 simp only[af,cm,ae,ints] at hr ⊢;generalize b.ae.map ah=rm at*;generalize az b.gone=rg at*;simp at hr;simp (maxSteps:=9^9) [ba,cd.m,cd.b,ab,setAt,hr,e6,e7,e8,aa]
def nX(n:Int)(i:Nat):Int:=n.fdiv ((2^i:Nat):Int)%2
theorem D6(x:Int):uG .i64 x 1=x%2:=by
 unfold uG;have h1:(BitVec.ofInt IntKind.i64.bits x&&&BitVec.ofInt IntKind.i64.bits 1).toNat=(x%2).toNat:=by
  change (BitVec.ofInt 64 x&&&BitVec.ofInt 64 1).toNat=(x%2).toNat;simp only[BitVec.toNat_and,BitVec.toNat_ofInt];have:((1:Int)%((2^64:Nat):Int)).toNat=1:=by decide
  rw[this,Nat.and_one_is_mod];have h2:(x%((2^64:Nat):Int)).toNat%2=(x%((2^64:Nat):Int)%2).toNat:=by
   have:0≤x%((2^64:Nat):Int):=Int.emod_nonneg _ (by decide);omega
  rw[h2];congr 1;have:((2^64:Nat):Int)=18446744073709551616:=by decide
  rw[this];omega
 rw[h1,wrap_i64 (by omega) (by omega)];omega
def jU(n t w:Int):List nE:=[⟨nX n 0,t,w⟩,⟨nX n 1,t,w⟩,⟨nX n 2,t,w⟩]
theorem gu.al(h:gu.k M)(n t w:Int):run M 157 [.c (I n),.a [I t,I w]] []=some (.c (.sl true 3 ((jU n t w).map aS)),[]):=by
 refine aA (b:=gu.m) h ⟨4, ?_⟩;have w2:IntKind.i64.wrap 2=2:=wrap_i64 (by omega) (by omega);have w3:IntKind.i64.wrap 3=3:=wrap_i64 (by omega) (by omega);simp (maxSteps:=9^9) [ba,gu.m,gu.b,ab,setAt,eZ,gu.l0,wrap_one,w2,w3,D6,jU,aS,nX,IntKind.bits]
theorem AO(x:Int):(x.tmod 2=0)↔x%2=0:=
 ⟨fun h=>Int.emod_eq_zero_of_dvd (Int.dvd_of_tmod_eq_zero h),fun h=>Int.tmod_eq_zero_of_dvd (Int.dvd_of_emod_eq_zero h)⟩
theorem gn.al(h:gn.k M)(n t w:Int):run M 181 [.c (I n),.a [I t,I w]] []=some (.c (.sl true 3 ((jU n t w).map aS)),[]):=by
 refine aA (b:=gn.m) h ⟨4, ?_⟩;have w2:IntKind.i64.wrap 2=2:=wrap_i64 (by omega) (by omega);have w3:IntKind.i64.wrap 3=3:=wrap_i64 (by omega) (by omega);have u0:IntKind.u64.wrap 0=0:=by decide
 have u1:IntKind.u64.wrap 1=1:=by decide
 have u2:IntKind.u64.wrap 2=2:=by decide
 have key:∀i:Nat,nX n i=if(n.fdiv ((2^i:Nat):Int)).tmod 2=0 then 0 else 1:=by
  intro i;unfold nX;by_cases c:(n.fdiv ((2^i:Nat):Int)).tmod 2=0
  ·rw[if_pos c];exact(AO _).1 c
  ·rw[if_neg c];rw[AO] at c;omega
 have k0:=key 0;have k1:=key 1;have k2:=key 2;by_cases c0:(n.fdiv ((2^0:Nat):Int)).tmod 2=0<;>by_cases c1:(n.fdiv ((2^1:Nat):Int)).tmod 2=0<;>by_cases c2:(n.fdiv ((2^2:Nat):Int)).tmod 2=0<;>
  simp only[c0,c1,c2,if_true,if_false] at k0 k1 k2<;>simp at c0 c1 c2<;>
  simp (maxSteps:=9^9) [ba,gn.m,gn.b,ab,setAt,eZ,gn.l0,wrap_one,w2,w3,u0,u1,u2,jU,aS,k0,k1,k2,c0,c1,c2,IntKind.bits]
def rO(l:List bp)(i:Nat):Int:=match l[i]? with|some m=>m.uid|none=>0
def jB(a b:bA)(g:Int):Bool:=match gg a.ae g with
 |none=>false
 |some i=>match gg b.ae g with
  |some k=>decide (rO a.ae i=rO b.ae k)
  |none=>decide (b.next≤rO a.ae i)
theorem dR.al(h:dR.k M)(a b:bA)(g:Int)(ha:a.ae.length≤1048576)(hb:b.ae.length≤1048576):run M 22 [.a (af a),.a (af b),.c (I g)] []=some (.c (.bool (jB a b g)),[]):=by
 have h1:=bT.al h.2 a g ha;have h2:=bT.al h.2 b g hb;refine aA (b:=dR.m) h.1 ⟨0, ?_⟩;simp only[af] at h1 h2;unfold jB;cases hi:gg a.ae g with
 |none=>
  simp[hi,dO] at h1;simp[ba,dR.m,dR.b,ab,h1]
 |some i=>
  have li:=vv _ _ _ _ _ hi;simp[hi,dO] at h1;have di:¬(i:Int)<0:=by omega
  have ui:rO a.ae i=a.ae[i].uid:=by simp[rO,li]
  cases hk:gg b.ae g with
  |none=>
   simp[hk,dO] at h2;simp[ba,dR.m,dR.b,ab,h1,h2,di,li,ui,ah]
  |some k=>
   have lk:=vv _ _ _ _ _ hk;have uk:rO b.ae k=b.ae[k].uid:=by simp[rO,lk]
   simp[hk,dO] at h2;simp[ba,dR.m,dR.b,ab,h1,h2,di,li,ui,lk,uk,ah]
theorem dU.al(h:dU.k M)(a b:bA)(g:Int)(ha:a.ae.length≤1048576)(hb:b.ae.length≤1048576):run M 23 [.a (af a),.a (af b),.c (I g)] []=some (.c (.bool (jB a b g)),[]):=by
 have h1:=cK.al h.2 a g ha;have h2:=cK.al h.2 b g hb;refine aA (b:=dU.m) h.1 ⟨0, ?_⟩;simp only[af] at h1 h2;unfold jB;cases hi:gg a.ae g with
 |none=>
  simp[hi,dO] at h1;simp[ba,dU.m,dU.b,ab,h1,h2]
 |some i=>
  have li:=vv _ _ _ _ _ hi;simp[hi,dO] at h1;have di:¬(i:Int)<0:=by omega
  have ui:rO a.ae i=a.ae[i].uid:=by simp[rO,li]
  cases hk:gg b.ae g with
  |none=>
   simp[hk,dO] at h2;simp[ba,dU.m,dU.b,ab,h1,h2,di,li,ui,ah]
  |some k=>
   have lk:=vv _ _ _ _ _ hk;have uk:rO b.ae k=b.ae[k].uid:=by simp[rO,lk]
   simp[hk,dO] at h2;by_cases c:a.ae[i].uid=b.ae[k].uid
   ·simp[ba,dU.m,dU.b,ab,h1,h2,di,li,ui,lk,uk,ah,c]
   ·have c':¬b.ae[k].uid=a.ae[i].uid:=fun q=>c q.symm
    simp[ba,dU.m,dU.b,ab,h1,h2,di,li,ui,lk,uk,ah,c,c']
end Mx
namespace Mx
open Go
def iR{α:Type}(k:α→Int)(acc:List α)(m:α):List α:=acc.filter (fun x=>decide (k x≤k m))++[m]++acc.filter (fun x=>decide (k m<k x))
def fv{α:Type}(k:α→Int)(l:List α):List α:=l.foldl (iR k) []
abbrev oh{α:Type}(k:α→Int)(l:List α):Prop:=l.Pairwise fun x y=>k x≤k y
theorem Ar{α:Type}{k:α→Int}{acc:List α}{m:α}(h:oh k acc):oh k (iR k acc m):=by
 simp only[iR,oh,List.pairwise_append,List.pairwise_singleton,fN,decide_eq_true_eq,gz,iC];refine⟨⟨h.filter _,trivial, ?_⟩,h.filter _, ?_⟩
 ·rintro a ⟨_,ha⟩ b rfl;exact ha
 ·rintro a (⟨_,ha⟩|rfl) b ⟨_,hb⟩<;>omega
theorem xU{α:Type}{k:α→Int}(acc:List α)(m:α):(iR k acc m).Perm (m::acc):=by
 have:∀l:List α,(l.filter (fun x=>decide (k x≤k m))++l.filter (fun x=>decide (k m<k x))).Perm l:=by
  intro l;have h:=List.filter_append_perm (fun x=>decide (k x≤k m)) l;have e:(fun x=> !decide (k x≤k m))=fun x=>decide (k m<k x):=by
   funext x;rw[Bool.eq_iff_iff];simp
  rwa [e] at h
 refine List.Perm.trans ?_ ((this acc).cons m);unfold iR;rw[bN];exact List.perm_middle
theorem vW{α:Type}{k:α→Int}:∀(l acc:List α),(l.foldl (iR k) acc).Perm (l++acc)
 |[],acc=>List.Perm.refl _
 |x::l,acc=>by
  refine(vW l (iR k acc x)).trans ?_;refine((xU acc x).append_left l).trans ?_;exact List.perm_middle
theorem te{α:Type}{k:α→Int}:∀(l acc:List α),oh k acc→oh k (l.foldl (iR k) acc)
 |[],acc,h=>h
 |x::l,acc,h=>te l _ (Ar h)
theorem oN{α:Type}{k:α→Int}(l:List α):(fv k l).Perm l:=by unfold fv;simpa using vW (k:=k) l []
theorem oJ{α:Type}{k:α→Int}(l:List α):oh k (fv k l):=te l [] List.Pairwise.nil
theorem qJ{α:Type}{k:α→Int}{l:List α}{z:α}:z∈fv k l↔z∈l:=(oN l).mem_iff
theorem iZ{α:Type}{k:α→Int}(l:List α):(fv k l).length=l.length:=(oN l).length_eq
abbrev B2{α:Type}(k:α→Int)(l:List α):Prop:=l.Pairwise fun x y=>k x<k y
theorem vw{α:Type}{k:α→Int}:∀{a b:List α},B2 k a→B2 k b→(∀x,x∈a↔x∈b)→a=b
 |[],[],_,_,_=>rfl
 |[],y::b,_,_,h=>absurd ((h y).2 (bf ..)) (by simp)
 |x::a,[],_,_,h=>absurd ((h x).1 (bf ..)) (by simp)
 |x::a,y::b,ha,hb,h=>by
  obtain⟨ha1,ha2⟩:=List.pairwise_cons.1 ha;obtain⟨hb1,hb2⟩:=List.pairwise_cons.1 hb;have e:x=y:=by
   rcases List.mem_cons.1 ((h x).1 (bf ..)) with q|q
   ·exact q
   ·rcases List.mem_cons.1 ((h y).2 (bf ..)) with q'|q'
    ·exact q'.symm
    ·have:=ha1 y q';have:=hb1 x q;omega
  subst e;congr 1;refine vw ha2 hb2 fun z=>⟨fun hz=> ?_,fun hz=> ?_⟩
  ·rcases List.mem_cons.1 ((h z).1 (bo _ hz)) with q|q
   ·have:=ha1 z hz;rw[q] at this;omega
   ·exact q
  ·rcases List.mem_cons.1 ((h z).2 (bo _ hz)) with q|q
   ·have:=hb1 z hz;rw[q] at this;omega
   ·exact q
theorem p5{α:Type}{k:α→Int}:∀{l:List α},oh k l→(l.map k).Nodup→B2 k l
 |[],_,_=>List.Pairwise.nil
 |x::l,h,hn=>by
  obtain⟨h1,h2⟩:=List.pairwise_cons.1 h;rw[bq,List.nodup_cons] at hn;refine List.pairwise_cons.2 ⟨fun y hy=> ?_,p5 h2 hn.2⟩;have:=h1 y hy;have:k x≠k y:=fun e=>hn.1 (by rw[e];exact iT hy)
  omega
def ll(t w u x:Int):Bool:=decide (u<t)||(decide (t=u)&&decide (x<w))
def pT(a b:nE):nE:=if ll b.time b.df a.time a.df=true∨ll a.time a.df b.time b.df=false∧a.val<b.val then b else a
def fz(a b:List nE):List nE:=List.zipWith pT a b
def K9(a b:List UInt8):List UInt8:=if jP a b=true then b else a
def iQ(a b:bp):bp:=if a.gid=b.gid then⟨a.gid,Max.max a.uid b.uid,fz a.flags b.flags,K9 a.text b.text⟩ else a
def jW(l:List bp)(g:Int):Option bp:=l.find? fun m=>decide (m.gid=g)
theorem m8{l:List bp}{g:Int}{m:bp}(h:jW l g=some m):m∈l∧m.gid=g:=⟨List.mem_of_find?_eq_some h,by simpa using List.find?_some h⟩
theorem oO{l:List bp}{g:Int}:jW l g=none↔∀m∈l,m.gid≠g:=by
 unfold jW;rw[List.find?_eq_none];simp
theorem xF{l:List bp}(h:(l.map (·.gid)).Nodup){m:bp}(hm:m∈l):jW l m.gid=some m:=by
 induction l with
 |nil=>simp at hm
 |cons x l ih=>
  rw[bq,List.nodup_cons] at h;unfold jW at ih ⊢;rw[List.find?_cons];rcases List.mem_cons.1 hm with rfl|hm
  ·simp
  ·have:x.gid≠m.gid:=fun e=>h.1 (by rw[e];exact iT hm)
   simp only[this,decide_false];exact ih h.2 hm
def fD(l:List bp):List Int:=l.map (·.gid)
def nC(a b:List bp)(g:Int):bp:=match jW a g,jW b g with
 |some x,some y=>iQ x y
 |some x,none=>x
 |none,some y=>y
 |none,none=>⟨0,0,[],[]⟩
def jv(a b:bA)(g:Int):Bool:=(holds a g&& !jB a b g)||(holds b g&& !jB b a g)
def mw(a b:bA)(s:List bp×Int)(g:Int):List bp×Int:=
 if g∈a.gone∨g∈b.gone then s else
 if jv a b g=true then(iR (·.uid) s.1 {nC a.ae b.ae g with uid:=s.2},s.2+1) else(iR (·.uid) s.1 (nC a.ae b.ae g),s.2)
def jx(a b:bA):List bp×Int:=(aR (fD a.ae) (fD b.ae)).foldl (mw a b) ([],Max.max a.next b.next)
def allM(a b:List bp):List bp:=a.map (fun m=>match jW b m.gid with|some y=>iQ m y|none=>m)++b.filter (fun m=>(jW a m.gid).isNone)
def eP(need:Int→Bool):Int→List bp→List bp×Int
 |n,[]=>([],n)
 |n,m::l=>if need m.gid=true then({m with uid:=n}::(eP need (n+1) l).1,(eP need (n+1) l).2) else(m::(eP need n l).1,(eP need n l).2)
def o9(a b:bA):List bp×Int:=
 let l:=eP (jv a b) (Max.max a.next b.next) (fv (·.gid) ((allM a.ae b.ae).filter fun m=> !decide (m.gid∈aR a.gone b.gone)))
 (fv (·.uid) l.1,l.2)
theorem qW(a b:bp):(iQ a b).gid=a.gid:=by unfold iQ;split<;>rfl
theorem qk{a b:List bp}{g:Int}(h:g∈fD a∨g∈fD b):(nC a b g).gid=g:=by
 unfold nC;cases h1:jW a g with
 |some x=>
  cases h2:jW b g with
  |some y=>simp only[qW];exact(m8 h1).2
  |none=>exact(m8 h1).2
 |none=>
  cases h2:jW b g with
  |some y=>exact(m8 h2).2
  |none=>
   exfalso;rw[oO] at h1 h2;rcases h with h|h
   ·obtain⟨m,hm,e⟩:=List.mem_map.1 h;exact h1 m hm e
   ·obtain⟨m,hm,e⟩:=List.mem_map.1 h;exact h2 m hm e
theorem Ho{a b:List bp}(ha:(fD a).Nodup)(hb:(fD b).Nodup){m:bp}:m∈allM a b↔(m.gid∈fD a∨m.gid∈fD b)∧m=nC a b m.gid:=by
 simp only[allM,iC,oI,fN];constructor
 ·rintro (⟨x,hx,rfl⟩|⟨hm,hn⟩)
  ·have h1:=xF ha hx;have hg:x.gid∈fD a:=iT hx;cases h2:jW b x.gid with
   |some y=>
    simp only[qW];refine⟨.inl hg, ?_⟩;simp only[nC,h1,h2]
   |none=>
    simp only;refine⟨.inl hg, ?_⟩;simp only[nC,h1,h2]
  ·have h1:=xF hb hm;simp only[cn] at hn;refine⟨.inr (iT hm), ?_⟩;simp only[nC,h1,hn]
 ·rintro ⟨h,e⟩;cases h1:jW a m.gid with
  |some x=>
   left;obtain⟨k1,k2⟩:=m8 h1;refine⟨x,k1, ?_⟩;rw[e,k2];simp only[nC,h1];cases h2:jW b m.gid<;>rfl
  |none=>
   right;cases h2:jW b m.gid with
   |none=>
    exfalso;rw[oO] at h1 h2;rcases h with h|h
    ·obtain⟨m',hm,e⟩:=List.mem_map.1 h;exact h1 m' hm e
    ·obtain⟨m',hm,e⟩:=List.mem_map.1 h;exact h2 m' hm e
   |some y=>
    refine⟨?_,by simp⟩;have:m=y:=by rw[e];simp only[nC,h1,h2]
    rw[this];exact(m8 h2).1
theorem Dd{a b:List bp}(ha:(fD a).Nodup)(hb:(fD b).Nodup):(fD (allM a b)).Nodup:=by
 have e1:fD (a.map (fun m=>match jW b m.gid with|some y=>iQ m y|none=>m))=fD a:=by
  unfold fD;rw[List.map_map];apply List.map_congr_left;intro m _;simp only[Function.comp];split
  ·exact qW _ _
  ·rfl
 unfold allM;rw[fD,cg];change (fD _++fD _).Nodup;rw[e1,List.nodup_append];refine⟨ha, ?_, ?_⟩
 ·exact hb.sublist (List.Sublist.map _ List.filter_sublist)
 ·intro x hx y hy e;subst e;obtain⟨m,hm,rfl⟩:=List.mem_map.1 hy;rw[fN] at hm;simp only[cn,oO] at hm;obtain⟨m',hm',e⟩:=List.mem_map.1 hx;exact hm.2 m' hm' e
theorem F7{a b:bA}(ha:(fD a.ae).Nodup)(hb:(fD b.ae).Nodup):
  fv (·.gid) ((allM a.ae b.ae).filter fun m=> !decide (m.gid∈aR a.gone b.gone))=((aR (fD a.ae) (fD b.ae)).filter fun g=> !decide (g∈aR a.gone b.gone)).map (nC a.ae b.ae):=by
 refine vw (k:=fun m:bp=>m.gid) ?_ ?_ fun m=> ?_
 ·refine p5 (oJ _) ?_;have hp:=(oN (k:=fun m:bp=>m.gid) ((allM a.ae b.ae).filter fun m=> !decide (m.gid∈aR a.gone b.gone))).map (fun m:bp=>m.gid);rw[hp.nodup_iff];exact(Dd ha hb).sublist (List.Sublist.map _ List.filter_sublist)
 ·rw[B2,List.pairwise_map];have h:=(n8 (fD a.ae) (fD b.ae)).filter (fun g=> !decide (g∈aR a.gone b.gone));refine List.Pairwise.imp_of_mem ?_ h;intro x y hx hy hxy;rw[fN,je] at hx hy;rw[qk hx.1,qk hy.1];exact hxy
 ·rw[qJ,fN,Ho ha hb,oI];constructor
  ·rintro ⟨⟨h1,h2⟩,h3⟩;exact⟨m.gid,List.mem_filter.2 ⟨(je _ _ _).2 h1,h3⟩,h2.symm⟩
  ·rintro ⟨g,hg,rfl⟩;rw[fN,je] at hg;have:=qk hg.1;rw[this];exact⟨⟨hg.1,rfl⟩,hg.2⟩
theorem vV(a b:bA):∀(gs:List Int) (acc:List bp) (n:Int),(∀g∈gs,g∈fD a.ae∨g∈fD b.ae)→
  gs.foldl (mw a b) (acc,n)=((eP (jv a b) n ((gs.filter fun g=> !decide (g∈aR a.gone b.gone)).map (nC a.ae b.ae))).1.foldl (iR (·.uid)) acc,(eP (jv a b) n ((gs.filter fun g=> !decide (g∈aR a.gone b.gone)).map (nC a.ae b.ae))).2)
 |[],acc,n,_=>by simp[eP]
 |g::gs,acc,n,h=>by
  have ih:=fun acc n=>vV a b gs acc n fun g hg=>h g (bo _ hg)
  have hg:=qk (h g (bf ..));rw[fa,mw,iX];by_cases c:g∈a.gone∨g∈b.gone
  ·have c':g∈aR a.gone b.gone:=(je _ _ _).2 c;rw[if_pos c,ih];simp[c']
  ·have c':¬g∈aR a.gone b.gone:=fun q=>c ((je _ _ _).1 q)
   rw[if_neg c];simp only[c',decide_false,Bool.not_false,if_true,bq,eP,hg];by_cases c2:jv a b g=true
   ·rw[if_pos c2,if_pos c2,ih];rfl
   ·rw[if_neg c2,if_neg c2,ih];rfl
theorem qj{a b:bA}(ha:(fD a.ae).Nodup)(hb:(fD b.ae).Nodup):o9 a b=jx a b:=by
 unfold o9 jx;rw[F7 ha hb,vV a b _ _ _ fun g hg=>(je _ _ _).1 hg];rfl
def iv(a b:bA):bA:=if a.gid=b.gid then
    {gid:=a.gid,name:=if ll b.time b.df a.time a.df=true∨ll a.time a.df b.time b.df=false∧jP a.name b.name=true then b.name else a.name,
     time:=if ll b.time b.df a.time a.df=true∨ll a.time a.df b.time b.df=false∧jP a.name b.name=true then b.time else a.time,
     df:=if ll b.time b.df a.time a.df=true∨ll a.time a.df b.time b.df=false∧jP a.name b.name=true then b.df else a.df,
     next:=(jx a b).2,ae:=(jx a b).1,gone:=aR a.gone b.gone} else a
end Mx
namespace Mx
open Go
variable {M:Nat→Option Body}
theorem gm.al(h:gm.k M)(t w u x:Int):run M 275 [.a [I t,I w],.a [I u,I x]] []=some (.c (.bool (ll t w u x)),[]):=by
 refine aA (b:=gm.m) h ⟨0, ?_⟩;unfold ll;by_cases c1:u<t
 ·simp (maxSteps:=9^9) [ba,gm.m,gm.b,ab,c1]
 by_cases c2:t=u
 ·subst c2;simp (maxSteps:=9^9) [ba,gm.m,gm.b,ab]
 ·simp (maxSteps:=9^9) [ba,gm.m,gm.b,ab,c1,c2]
theorem iB.al(h:iB.k M)(t w u x:Int):run M 277 [.a [I t,I w],.a [I u,I x]] []=some (.c (.bool (ll t w u x)),[]):=by
 refine aA (b:=iB.m) h ⟨0, ?_⟩;unfold ll;by_cases c2:t=u
 ·subst c2;simp (maxSteps:=9^9) [ba,iB.m,iB.b,ab]
 ·simp (maxSteps:=9^9) [ba,iB.m,iB.b,ab,c2]
def xx(r:nE)(v t w:Int):nE:=if ll t w r.time r.df=true∧ot ⟨v,t,w⟩=true then⟨v,t,w⟩ else r
theorem jo.al(h:jo.k M)(r:nE)(v t w:Int):run M 240 [.a (aS r),.c (I v),.a [I t,I w]] []=some (.a (aS (xx r v t w)),[]):=by
 obtain⟨h0,k1,k2⟩:=h;have h1:=jn.al k1 ⟨v,t,w⟩;have h2:=gm.al k2 t w r.time r.df;refine aA (b:=jo.m) h0 ⟨0, ?_⟩;unfold xx;simp only[aS] at h1;generalize ll t w r.time r.df=a at*;generalize ot ⟨v,t,w⟩=b at*;cases a<;>cases b<;>simp (maxSteps:=9^9) [ba,jo.m,jo.b,ab,setAt,h1,h2,aS]
theorem jm.al(h:jm.k M)(r:nE)(v t w:Int):run M 243 [.a (aS r),.c (I v),.a [I t,I w]] []=some (.a (aS (xx r v t w)),[]):=by
 obtain⟨h0,k1,k2⟩:=h;have h1:=jl.al k1 ⟨v,t,w⟩;have h2:=iB.al k2 t w r.time r.df;refine aA (b:=jm.m) h0 ⟨0, ?_⟩;unfold xx;simp only[aS] at h1;generalize ll t w r.time r.df=a at*;generalize ot ⟨v,t,w⟩=b at*;cases a<;>cases b<;>simp (maxSteps:=9^9) [ba,jm.m,jm.b,ab,setAt,h1,h2,aS]
def pP(n t w:Int)(i:Nat)(r:nE):nE:=if r.val=nX n i then r else xx r (nX n i) t w
def mU(l:List nE)(n t w:Int):List nE:=if lQ l=true∧j_ 0 n 7=true then l.mapIdx (pP n t w) else l
def kD(l:List nE)(n t w:Int)(k:Nat):List nE:=l.mapIdx fun i r=>if i<k then pP n t w i r else r
theorem xi(l:List nE)(n t w:Int):kD l n t w 0=l:=by
 unfold kD;simp[List.mapIdx_eq_iff]
theorem zb(l:List nE)(n t w:Int):kD l n t w l.length=l.mapIdx (pP n t w):=by
 unfold kD;apply List.ext_getElem
 ·simp
 ·intro i h1 h2;simp at h1 ⊢;intro h;omega
theorem sx(l:List nE)(n t w:Int)(k:Nat):(kD l n t w k).length=l.length:=by simp[kD]
theorem A0(l:List nE)(n t w:Int)(k:Nat)(h:k<l.length):(kD l n t w k)[k]'(by simpa [kD] using h)=l[k]:=by simp[kD]
theorem xk(l:List nE)(n t w:Int)(k:Nat)(h:k<l.length):kD l n t w (k+1)=(kD l n t w k).set k (pP n t w k l[k]):=by
 unfold kD;apply List.ext_getElem
 ·simp
 ·intro i h1 h2;simp only[List.getElem_mapIdx,List.getElem_set];by_cases c:k=i
  ·subst c;simp
  ·rw[if_neg c];by_cases c2:i<k
   ·rw[if_pos c2,if_pos (by omega)]
   ·rw[if_neg c2,if_neg (by omega)]
def LY(l:List nE)(n t w:Int)(i:Nat)(x:Nat×Nat×Nat):St:={t:=[(1,.c (I n)),(5,.c (.ptr 5 x.1 0 0)),(7,.c (.row 11200 x.2.1 0 l.length)),(22,.c (.row 11200 x.2.1 0 l.length)),(23,.c (I l.length)),(24,.c (I i))],o:=[(5,⟨x.1,2,true,true,[[I t,I w]]⟩),(11200,⟨x.2.1,3,true,false,(kD l n t w i).map aS⟩)],n:=x.2.2}
def Og(l:List nE)(n t w:Int)(x:Nat×Nat×Nat):St:={t:=[(1,.c (I n)),(5,.c (.ptr 5 x.1 0 0)),(7,.c (.row 11200 x.2.1 0 l.length)),(22,.c (.row 11200 x.2.1 0 l.length)),(23,.c (I l.length)),(24,.c (I l.length)),(25,.c (.bool false))],o:=[(5,⟨x.1,2,true,true,[[I t,I w]]⟩),(11200,⟨x.2.1,3,true,false,(kD l n t w l.length).map aS⟩)],n:=x.2.2}
theorem BK(n:Int)(i:Nat):0≤nX n i∧nX n i≤1:=by unfold nX;omega
theorem cQ.KF(k:jo.k M)(l:List nE)(n t w:Int)(K i:Nat)(hl:l.length=3)(hi:i<l.length)(x:Nat×Nat×Nat):
  ∃y,ct (run M) K cQ.l0 (LY l n t w i x)=some (.normal,LY l n t w (i+1) y):=by
 obtain⟨v,u,x⟩:=x;have e5:=cA (i:=i) (by omega);have h1:=jo.al k l[i] (nX n i) t w;have hlen:((kD l n t w i).map aS).length=l.length:=by simp[sx]
 have hi2:i<((kD l n t w i).map aS).length:=by omega
 have hat:((kD l n t w i).map aS)[i]'hi2=aS l[i]:=by rw[f_,A0]
 have hat2:((kD l n t w i).map aS)[i]? =some (aS l[i]):=by rw[cj hi2,hat]
 have hset:(kD l n t w (i+1)).map aS=((kD l n t w i).map aS).set i (aS (pP n t w i l[i])):=by rw[xk _ _ _ _ _ hi,iU]
 have hb:=BK n i;have hbit:uG .i64 (n.fdiv ((2^i:Nat):Int)) 1=nX n i:=D6 _;have hmin:Min.min i 64=i:=by omega
 simp only[LY,hset,pP,aE];generalize (kD l n t w i).map aS=rr at*;have hbit2:uG .i64 (n.fdiv (2^i)) 1=nX n i:=by rw[←hbit];norm_cast
 have hii:(i:Int)<3:=by omega
 have h3:i<3:=by omega
 have hng:¬(i:Int)<0:=by omega
 simp only[aS] at h1 hat hat2;by_cases c:l[i].val=nX n i
 ·rw[if_pos c];have hself:rr.set i [I l[i].val,I l[i].time,I l[i].df]=rr:=by
   apply List.ext_getElem?;intro j;rw[List.getElem?_set];split
   ·rename_i hj;subst hj;simp[hi2,hat]
   ·rfl
  rw[hself];simp (maxSteps:=9^9) [cQ.l0,setAt,hl,hlen,hat,e5,hmin,hbit2,hii,h3,hng,c,IntKind.bits]
 ·rw[if_neg c];simp (maxSteps:=9^9) [cQ.l0,setAt,hl,hlen,hat,e5,hmin,hbit2,hii,h3,hng,c,h1,aS,IntKind.bits]
end Mx
namespace Mx
open Go
theorem uY{t w u x:Int}:ll t w u x=true↔u<t∨t=u∧x<w:=by
 simp[ll]
theorem zo{t w u x:Int}:ll t w u x=false↔¬(u<t∨t=u∧x<w):=by
 rw[←uY];simp
theorem tL:∀a,jP a a=false
 |[]=>rfl
 |x::a=>by simp[jP,tL a]
theorem zF:∀a b,jP a b=true∧jP b a=false∨jP a b=false∧jP b a=true∨jP a b=false∧jP b a=false∧a=b
 |[],[]=>by simp[jP]
 |[],_::_=>by simp[jP]
 |_::_,[]=>by simp[jP]
 |x::a,y::b=>by
  have ih:=zF a b;simp only[jP];by_cases h1:x<y
  ·have h2:¬y<x:=by rw[UInt8.lt_iff_toNat_lt] at*;omega
   have h3:(y==x)=false:=by
    rw[beq_eq_false_iff_ne];rintro rfl;exact h2 h1
   left;simp[h1,h2,h3]
  ·by_cases h2:y<x
   ·have h3:(x==y)=false:=by
     rw[beq_eq_false_iff_ne];rintro rfl;exact h1 h2
    right;left;simp[h1,h2,h3]
   ·have h3:x=y:=by
     rw[←UInt8.toNat_inj];rw[UInt8.lt_iff_toNat_lt] at*;omega
    subst h3;simpa [h1] using ih
end Mx
namespace Mx
open Go
variable {M:Nat→Option Body}
theorem iw.al(h:iw.k M)(a b:nE):run M 485 [.a (aS a),.a (aS b)] []=some (.a (aS (pT a b)),[]):=by
 obtain⟨h0,k1⟩:=h;have h1:=gm.al k1 b.time b.df a.time a.df;have h2:=gm.al k1 a.time a.df b.time b.df;refine aA (b:=iw.m) h0 ⟨0, ?_⟩;unfold pT;generalize ll b.time b.df a.time a.df=x at*;generalize ll a.time a.df b.time b.df=y at*;by_cases c:a.val<b.val
 ·cases x<;>cases y<;>simp (maxSteps:=9^9) [ba,iw.m,iw.b,ab,setAt,h1,h2,aS,c]
 ·cases x<;>cases y<;>simp (maxSteps:=9^9) [ba,iw.m,iw.b,ab,setAt,h1,h2,aS,c]
theorem An(a b:nE):pT a b=if ll a.time a.df b.time b.df=true∨(a.time=b.time∧a.df=b.df)∧b.val≤a.val then a else b:=by
 unfold pT;simp only[uY,zo];by_cases h1:a.time<b.time∨b.time=a.time∧a.df<b.df
 ·rw[if_pos (.inl h1),if_neg (by omega)]
 ·by_cases h2:b.time<a.time∨a.time=b.time∧b.df<a.df
  ·rw[if_neg (by omega),if_pos (.inl h2)]
  ·by_cases h3:a.val<b.val
   ·rw[if_pos (.inr ⟨h2,h3⟩),if_neg (by omega)]
   ·rw[if_neg (by omega),if_pos (by omega)]
theorem gH.al(h:gH.k M)(a b:nE):run M 488 [.a (aS a),.a (aS b)] []=some (.a (aS (pT a b)),[]):=by
 obtain⟨h0,k1⟩:=h;have h2:=iB.al k1 a.time a.df b.time b.df;refine aA (b:=gH.m) h0 ⟨0, ?_⟩;rw[An];obtain⟨av,t,w⟩:=a;obtain⟨bv,u,x⟩:=b;simp only at*;generalize ll t w u x=y at*;by_cases c2:t=u
 ·subst c2;by_cases c3:w=x
  ·subst c3;by_cases c:bv≤av<;>cases y<;>simp (maxSteps:=9^9) [ba,gH.m,gH.b,ab,setAt,h2,aS,c]
  ·cases y<;>simp (maxSteps:=9^9) [ba,gH.m,gH.b,ab,setAt,h2,aS,c3]
 ·cases y<;>simp (maxSteps:=9^9) [ba,gH.m,gH.b,ab,setAt,h2,aS,c2]
theorem pZ(a b:List nE):(fz a b).length=Min.min a.length b.length:=by simp[fz]
def HX(a b:List nE)(i:Nat)(x:Nat×Nat):St:={t:=[(0,.c (jM a)),(1,.c (jM b)),(5,.c (.row 7 x.1 0 i)),(6,.c (I i))],o:=[(7,⟨x.1,3,true,false,((fz a b).take i).map aS⟩)],n:=x.2}
def Km(a b:List nE)(x:Nat×Nat):St:={t:=[(0,.c (jM a)),(1,.c (jM b)),(5,.c (.row 7 x.1 0 (Min.min a.length b.length))),(6,.c (I (Min.min a.length b.length:Nat))),(17,.c (.bool false))],o:=[(7,⟨x.1,3,true,false,((fz a b).take (Min.min a.length b.length)).map aS⟩)],n:=x.2}
theorem eC.al(h:eC.k M)(a b:List nE)(ha:a.length≤1048576)(hb:b.length≤1048576):run M 470 [.c (jM a),.c (jM b)] []=some (.c (.sl true 3 ((fz a b).map aS)),[]):=by
 obtain⟨h0,k1⟩:=h;refine aA (b:=eC.m) h0 ⟨Min.min a.length b.length+1, ?_⟩;have hlen:=pZ a b;obtain⟨g,hr⟩:=ky (f:=ct (run M) (Min.min a.length b.length+1) eC.l0) (Min.min a.length b.length) (HX a b) 0 (Km a b)
  (fun i hi x=>by
   obtain⟨v,n⟩:=x;have hia:i<a.length:=by omega
   have hib:i<b.length:=by omega
   have h1:=iw.al k1 a[i] b[i];have e5:=cA (i:=i) (by omega);have e6:i+1≤4294967296:=by omega
   have e7:(((fz a b).take i).map aS).length=i:=by simp[hlen];omega
   have e8:(((fz a b).take (i+1)).map aS)=((fz a b).take i).map aS++[aS (pT a[i] b[i])]:=by
    rw[iA _ _ (by rw[hlen];exact hi),cg];simp[fz]
   simp only[HX,e8,aE];generalize ((fz a b).take i).map aS=rr at*;simp only[aS] at h1;simp (maxSteps:=9^9) [eC.l0,ab,jM,hia,hib,h1,e5,e6,e7,aS,aa])
  (fun x=>by
   obtain⟨v,n⟩:=x;simp only[aE];by_cases c:a.length≤b.length
   ·have e:Min.min a.length b.length=a.length:=by omega
    simp only[HX,Km,e];simp (maxSteps:=9^9) [eC.l0,ab,jM]
   ·have e:Min.min a.length b.length=b.length:=by omega
    have c2:b.length<a.length:=by omega
    simp only[HX,Km,e];simp (maxSteps:=9^9) [eC.l0,ab,jM,c2])
 have hr0:=hr (2000016,2000064);obtain⟨v,n⟩:=g (2000016,2000064);have e9:(fz a b).take (Min.min a.length b.length)=fz a b:=aa (by omega);have e10:((fz a b).map aS).length=Min.min a.length b.length:=by simp[hlen]
 simp only[HX,Km,e9,List.take_zero,bF] at hr0;generalize (fz a b).map aS=rr at*;generalize Min.min a.length b.length=k at*;simp at hr0;simp (maxSteps:=9^9) [ba,eC.m,eC.b,ab,hr0,e10,aa]
theorem ec.al(h:ec.k M)(a b:List nE)(ha:a.length≤1048576)(hb:b.length≤1048576):run M 472 [.c (jM a),.c (jM b)] []=some (.c (.sl true 3 ((fz a b).map aS)),[]):=by
 obtain⟨h0,k1⟩:=h;refine aA (b:=ec.m) h0 ⟨Min.min a.length b.length+1, ?_⟩;have hlen:=pZ a b;obtain⟨g,hr⟩:=ky (f:=ct (run M) (Min.min a.length b.length+1) ec.l0) (Min.min a.length b.length) (HX a b) 0 (Km a b)
  (fun i hi x=>by
   obtain⟨v,n⟩:=x;have hia:i<a.length:=by omega
   have hib:i<b.length:=by omega
   have h1:=gH.al k1 a[i] b[i];have e5:=cA (i:=i) (by omega);have e6:i+1≤4294967296:=by omega
   have e7:(((fz a b).take i).map aS).length=i:=by simp[hlen];omega
   have e8:(((fz a b).take (i+1)).map aS)=((fz a b).take i).map aS++[aS (pT a[i] b[i])]:=by
    rw[iA _ _ (by rw[hlen];exact hi),cg];simp[fz]
   simp only[HX,e8,aE];generalize ((fz a b).take i).map aS=rr at*;simp only[aS] at h1;simp (maxSteps:=9^9) [ec.l0,ab,jM,hia,hib,h1,e5,e6,e7,aS,aa])
  (fun x=>by
   obtain⟨v,n⟩:=x;simp only[aE];by_cases c:a.length≤b.length
   ·have e:Min.min a.length b.length=a.length:=by omega
    simp only[HX,Km,e];simp (maxSteps:=9^9) [ec.l0,ab,jM]
   ·have e:Min.min a.length b.length=b.length:=by omega
    have c2:b.length<a.length:=by omega
    simp only[HX,Km,e];simp (maxSteps:=9^9) [ec.l0,ab,jM,c2])
 have hr0:=hr (2000016,2000064);obtain⟨v,n⟩:=g (2000016,2000064);have e9:(fz a b).take (Min.min a.length b.length)=fz a b:=aa (by omega);have e10:((fz a b).map aS).length=Min.min a.length b.length:=by simp[hlen]
 simp only[HX,Km,e9,List.take_zero,bF] at hr0;generalize (fz a b).map aS=rr at*;generalize Min.min a.length b.length=k at*;simp at hr0;simp (maxSteps:=9^9) [ba,ec.m,ec.b,ab,hr0,e10,aa]
theorem vt(a b:List UInt8):(!jP b a&& !decide (b=a))=jP a b:=by
 rcases zF a b with⟨h1,h2⟩|⟨h1,h2⟩|⟨h1,h2,h3⟩
 ·have:¬b=a:=by rintro rfl;rw[tL] at h1;cases h1
  simp[h1,h2,this]
 ·simp[h1,h2]
 ·simp[h3,tL]
theorem rV(a b:bp):(iQ a b).flags.length≤a.flags.length:=by
 unfold iQ;split
 ·simp only[pZ];omega
 ·exact Nat.le_refl _
theorem fL.al(h:fL.k M)(a b:bp)(ha:a.flags.length≤1048576)(hb:b.flags.length≤1048576):run M 452 [.a (ah a),.a (ah b)] []=some (.a (jg (iQ a b)),[]):=by
 obtain⟨h0,k1,k2⟩:=h;have h1:=eR.al k1 a ha;have h2:=eC.al k2 a.flags b.flags ha hb;refine aA (b:=fL.m) h0 ⟨0, ?_⟩;unfold iQ;by_cases c:a.gid=b.gid
 ·rw[if_pos c];simp only[ah,jg,jM,K9] at*;have e1:((fz a.flags b.flags).map aS).length=(fz a.flags b.flags).length:=by simp
  generalize (fz a.flags b.flags).map aS=rf at*;generalize a.flags.map aS=ra at*;generalize b.flags.map aS=rb at*;have e2:Max.max a.uid b.uid=if b.uid>a.uid then b.uid else a.uid:=by split<;>omega
  rw[e2];by_cases c2:a.uid<b.uid
  ·cases c3:jP a.text b.text<;>simp (maxSteps:=9^9) [ba,fL.m,fL.b,ab,setAt,h2,c,c2,c3,e1,max2,aa]
  ·cases c3:jP a.text b.text<;>simp (maxSteps:=9^9) [ba,fL.m,fL.b,ab,setAt,h2,c,c2,c3,e1,max2,aa]
 ·rw[if_neg c];have e1:(a.flags.map aS).length=a.flags.length:=by simp
  simp only[ah,jg,jM] at*;generalize a.flags.map aS=ra at*;generalize b.flags.map aS=rb at*;simp (maxSteps:=9^9) [ba,fL.m,fL.b,ab,setAt,h1,c,e1,aa]
theorem fJ.al(h:fJ.k M)(a b:bp)(ha:a.flags.length≤1048576)(hb:b.flags.length≤1048576):run M 461 [.a (ah a),.a (ah b)] []=some (.a (jg (iQ a b)),[]):=by
 obtain⟨h0,k1,k2⟩:=h;have h1:=fU.al k1 a ha;have h2:=ec.al k2 a.flags b.flags ha hb;refine aA (b:=fJ.m) h0 ⟨0, ?_⟩;unfold iQ;by_cases c:a.gid=b.gid
 ·rw[if_pos c];simp only[ah,jg,jM,K9] at*;have e1:((fz a.flags b.flags).map aS).length=(fz a.flags b.flags).length:=by simp
  have e3:(a.flags.map aS).length=a.flags.length:=by simp
  generalize (fz a.flags b.flags).map aS=rf at*;generalize a.flags.map aS=ra at*;generalize b.flags.map aS=rb at*;have e2:Max.max a.uid b.uid=if a.uid<b.uid then b.uid else a.uid:=by split<;>omega
  rw[e2];rw[c] at h1;have e4:=vt a.text b.text;by_cases c2:a.uid<b.uid
  ·cases c3:jP a.text b.text<;>simp (maxSteps:=9^9) [ba,fJ.m,fJ.b,ab,setAt,h1,h2,c,c2,c3,e1,e3,e4,aa]
  ·cases c3:jP a.text b.text<;>simp (maxSteps:=9^9) [ba,fJ.m,fJ.b,ab,setAt,h1,h2,c,c2,c3,e1,e3,e4,aa]
 ·rw[if_neg c];have e1:(a.flags.map aS).length=a.flags.length:=by simp
  simp only[ah,jg,jM] at*;generalize a.flags.map aS=ra at*;generalize b.flags.map aS=rb at*;simp (maxSteps:=9^9) [ba,fJ.m,fJ.b,ab,setAt,h1,c,e1,aa]
end Mx
namespace Mx
open Go
theorem kW{σ:Type}{f:St→Option (Out×St)}(S:σ→St)(Inv:σ→Prop)(μ:σ→Nat)(Post:Out×St→Prop)
  (h:∀s,Inv s→(∃s',f (S s)=some (.normal,S s')∧Inv s'∧μ s'<μ s)∨(∃r,f (S s)=some r∧r.1≠.normal∧Post r)):
  ∀m s,Inv s→μ s<m→∃r,eZ f m (S s)=some r∧Post r
 |0,s,_,hm=>by omega
 |m+1,s,hi,hm=>by
  rcases h s hi with⟨s',h1,h2,h3⟩|⟨⟨o,r⟩,h1,h2,h3⟩
  ·obtain⟨r,q1,q2⟩:=kW S Inv μ Post h m s' h2 (by omega);exact⟨r,by simp only[eZ,h1];exact q1,q2⟩
  ·refine⟨(o,r), ?_,h3⟩;simp only[eZ,h1];cases o with
   |normal=>exact(h2 rfl).elim
   |_=>rfl
end Mx
namespace Mx
open Go
variable {M:Nat→Option Body}
def sf(x y:Int):Int:=if x<y then -1 else if y<x then 1 else 0
theorem uD{x y:Int}:sf x y<0↔x<y:=by unfold sf;split<;>(try split)<;>omega
theorem fm.al(h:fm.k M)(x y:Int):run M 457 [.c (I x),.c (I y)] []=some (.c (I (sf x y)),[]):=by
 refine aA (b:=fm.m) h ⟨0, ?_⟩;unfold sf;by_cases c:x<y
 ·simp (maxSteps:=9^9) [ba,fm.m,fm.b,ab,c]
 ·by_cases c2:y<x
  ·simp (maxSteps:=9^9) [ba,fm.m,fm.b,ab,c,c2]
  ·simp (maxSteps:=9^9) [ba,fm.m,fm.b,ab,c,c2]
theorem hQ.al(h:hQ.k M)(x y:bp):run M 456 [.a (ah x),.a (ah y)] []=some (.c (I (sf x.gid y.gid)),[]):=by
 have h1:=fm.al h.2 x.gid y.gid;refine aA (b:=hQ.m) h.1 ⟨0, ?_⟩;simp (maxSteps:=9^9) [ba,hQ.m,hQ.b,ab,h1,ah]
theorem hO.al(h:hO.k M)(x y:bp):run M 458 [.a (ah x),.a (ah y)] []=some (.c (I (sf x.uid y.uid)),[]):=by
 have h1:=fm.al h.2 x.uid y.uid;refine aA (b:=hO.m) h.1 ⟨0, ?_⟩;simp (maxSteps:=9^9) [ba,hO.m,hO.b,ab,h1,ah]
theorem xT{α:Type}{k:α→Int}(P:List α)(y x:α)(Q:List α)(h:k x<k y):iR k (P++[y]) x++Q=iR k P x++(y::Q):=by
 have h1:¬k y≤k x:=by omega
 simp[iR,List.filter_append,h,h1]
theorem xS{α:Type}{k:α→Int}(P:List α)(x:α)(h:∀y∈P,k y≤k x):iR k P x=P++[x]:=by
 have h1:P.filter (fun z=>decide (k z≤k x))=P:=List.filter_eq_self.2 fun y hy=>by simpa using h y hy
 have h2:P.filter (fun z=>decide (k x<k z))=[]:=List.filter_eq_nil_iff.2 fun y hy=>by have:=h y hy;simp;omega
 simp[iR,h1,h2]
structure N2 where
 j:Nat
 D:List bp
 n:Nat
def Mh(f N i:Nat)(Z:List (List T))(s:N2):St:={t:=[(0,.c (.row 0 0 0 N)),(1,.c (I 0)),(2,.c (I N)),(3,.c (.fn f [])),(8,.c (I i)),(9,.c (I s.j))],o:=[(0,⟨0,4,true,false,s.D.map ah++Z⟩)],n:=s.n}
def OA(f N i:Nat)(Z:List (List T))(s:N2):St:={t:=[(0,.c (.row 0 0 0 N)),(1,.c (I 0)),(2,.c (I N)),(3,.c (.fn f [])),(8,.c (I i)),(9,.c (I s.j)),(34,.c (.bool false))],o:=[(0,⟨0,4,true,false,s.D.map ah++Z⟩)],n:=s.n}
structure OX (k:bp→Int) (N:Nat) (R:List bp) (s:N2):Prop where
 len:s.D.length=N
 lt:s.j<N
 e:∃P x Q,P.length=s.j∧s.D=P++x::Q∧oh k P∧iR k P x++Q=R
theorem Af{α β:Type}{f:α→β}{P Q:List α}{x:α}{l:List β}(h:l=(P++x::Q).map f)(i:Nat)(hi:i=P.length):∀hh,l[i]'hh=f x:=by
 subst h;subst hi;intro hh;simp
theorem Jo{f:Nat}{g u g' u':Int}{fl fl':List (List T)}{tx tx':List UInt8}{c:Int}
  (hcmp:run M f [.a [I g,I u,.sl false 3 fl,S tx],.a [I g',I u',.sl false 3 fl',S tx']] []=some (.c (I c),[])) (hc:c<0) (m N i j p:Nat) (hN:N≤1048576) (rr:List (List T)) (e1:IntKind.i64.wrap ((j:Int)-1)=(p:Int)) (hj:j<N) (hp:p<N) (h0:0<j) (e2:j<rr.length) (e3:p<rr.length) (hne:¬j=p) (hne':¬p=j)
  (a1:∀hh,rr[p]'hh=[I g',I u',.sl false 3 fl',S tx']) (a2:∀hh,rr[j]'hh=[I g,I u,.sl false 3 fl,S tx]) (n:Nat):
  ∃n',ct (run M) m ar.l1 {t:=[(0,.c (.row 0 0 0 N)),(1,.c (I 0)),(2,.c (I N)),(3,.c (.fn f [])),(8,.c (I i)),(9,.c (I j))],o:=[(0,⟨0,4,true,false,rr⟩)],n:=n}=
   some (.normal,{t:=[(0,.c (.row 0 0 0 N)),(1,.c (I 0)),(2,.c (I N)),(3,.c (.fn f [])),(8,.c (I i)),(9,.c (I p))],o:=[(0,⟨0,4,true,false,(rr.set j [I g',I u',.sl false 3 fl',S tx']).set p [I g,I u,.sl false 3 fl,S tx]⟩)],n:=n'}):=by
 simp (maxSteps:=9^9) [ar.l1,ab,setAt,hcmp,hc,a1,a2,e1,e2,e3,hj,hp,h0,hne]
theorem Jp{f:Nat}{g u g' u':Int}{fl fl':List (List T)}{tx tx':List UInt8}{c:Int}
  (hcmp:run M f [.a [I g,I u,.sl false 3 fl,S tx],.a [I g',I u',.sl false 3 fl',S tx']] []=some (.c (I c),[])) (hc:¬c<0) (m N i j p:Nat) (hN:N≤1048576) (rr:List (List T)) (e1:IntKind.i64.wrap ((j:Int)-1)=(p:Int)) (hj:j<N) (hp:p<N) (h0:0<j) (e2:j<rr.length) (e3:p<rr.length) (hne:¬j=p) (hne':¬p=j)
  (a1:∀hh,rr[p]'hh=[I g',I u',.sl false 3 fl',S tx']) (a2:∀hh,rr[j]'hh=[I g,I u,.sl false 3 fl,S tx]) (n:Nat):
  ∃n',ct (run M) m ar.l1 {t:=[(0,.c (.row 0 0 0 N)),(1,.c (I 0)),(2,.c (I N)),(3,.c (.fn f [])),(8,.c (I i)),(9,.c (I j))],o:=[(0,⟨0,4,true,false,rr⟩)],n:=n}=
   some (.exit 2,{t:=[(0,.c (.row 0 0 0 N)),(1,.c (I 0)),(2,.c (I N)),(3,.c (.fn f [])),(8,.c (I i)),(9,.c (I j)),(34,.c (.bool false))],o:=[(0,⟨0,4,true,false,rr⟩)],n:=n'}):=by
 simp (maxSteps:=9^9) [ar.l1,ab,hcmp,hc,a1,a2,e1,e2,e3,hj,hp,h0]
theorem Lm{f:Nat}(m N i:Nat)(rr:List (List T))(n:Nat):
  ∃n',ct (run M) m ar.l1 {t:=[(0,.c (.row 0 0 0 N)),(1,.c (I 0)),(2,.c (I N)),(3,.c (.fn f [])),(8,.c (I i)),(9,.c (I 0))],o:=[(0,⟨0,4,true,false,rr⟩)],n:=n}=
   some (.exit 2,{t:=[(0,.c (.row 0 0 0 N)),(1,.c (I 0)),(2,.c (I N)),(3,.c (.fn f [])),(8,.c (I i)),(9,.c (I 0)),(34,.c (.bool false))],o:=[(0,⟨0,4,true,false,rr⟩)],n:=n'}):=by
 simp (maxSteps:=9^9) [ar.l1,ab]
theorem AZ{α β:Type}(e:α→β)(P:List α)(x y:α)(Q:List α):(((P++y::x::Q).map e).set (P.length+1) (e y)).set P.length (e x)=(P++x::y::Q).map e:=by
 apply List.ext_getElem
 ·simp
 ·intro q h1 h2;simp only[List.getElem_set,cg,bq,List.getElem_append,de];by_cases q1:P.length=q
  ·subst q1;simp
  ·by_cases q2:P.length+1=q
   ·subst q2;have q4:¬P.length+1<P.length:=by omega
    have q5:P.length+1-P.length=1:=by omega
    simp[q4,q5]
   ·by_cases q3:q<P.length
    ·simp[q1,q2,q3]
    ·obtain⟨w,rfl⟩:∃w,q=P.length+2+w:=⟨q-P.length-2,by omega⟩
     have:P.length+2+w-P.length=w+2:=by omega
     simp[q1,q2,q3,this]
theorem Jn{f:Nat}{k:bp→Int}(hf:∀x y:bp,run M f [.a (ah x),.a (ah y)] []=some (.c (I (sf (k x) (k y))),[]))(m N i:Nat)(hN:N≤1048576)(Z:List (List T))(R:List bp)(s:N2)(hs:OX k N R s):
  (∃s',ct (run M) m ar.l1 (Mh f N i Z s)=some (.normal,Mh f N i Z s')∧OX k N R s'∧s'.j<s.j)∨
   (∃r,ct (run M) m ar.l1 (Mh f N i Z s)=some r∧r.1≠.normal∧∃s',r=(.exit 2,OA f N i Z s')∧s'.D=R):=by
 obtain⟨j,D,n⟩:=s;obtain⟨hl,hj,P,x,Q,hP,hD,hsort,hR⟩:=hs;simp only at hl hj hP hD;rcases List.eq_nil_or_concat P with rfl|⟨P',y,rfl⟩
 ·right;have hj0:j=0:=by simpa using hP.symm
  subst hj0;obtain⟨n',hh⟩:=Lm (M:=M) (f:=f) m N i (D.map ah++Z) n;exact⟨_,hh,by simp,⟨0,D,n'⟩,rfl,by rw[←hR,hD];simp[iR]⟩
 ·rw[List.concat_eq_append] at hP hD hsort hR;have hlen:j=P'.length+1:=by simpa using hP.symm
  have hDm:D.map ah=(P'++y::(x::Q)).map ah:=by rw[hD];simp
  have hDm2:D.map ah=((P'++[y])++x::Q).map ah:=by rw[hD]
  have a1:∀hh,(D.map ah++Z)[P'.length]'hh=ah y:=by
   intro hh;rw[List.getElem_append_left (by simp;omega)];exact Af hDm P'.length rfl _
  have a2:∀hh,(D.map ah++Z)[j]'hh=ah x:=by
   intro hh;rw[List.getElem_append_left (by simp;omega)];exact Af hDm2 j (by simp[hlen]) _
  have hcmp:=hf x y;have e1:IntKind.i64.wrap ((j:Int)-1)=(P'.length:Int):=by rw[wrap_i64 (by omega) (by omega)];omega
  by_cases c:k x<k y
  ·left;obtain⟨n',hh⟩:=Jo hcmp (uD.2 c) m N i j P'.length hN (D.map ah++Z) e1 hj (by omega) (by omega) (by simp;omega) (by simp;omega) (by omega) (by omega) a1 a2 n;refine⟨⟨P'.length,P'++x::(y::Q),n'⟩, ?_,⟨by simp only;rw[hD] at hl;simp at hl ⊢;omega,by simp only;omega,P',x,y::Q,rfl,rfl,(List.pairwise_append.1 hsort).1,by rw[←hR,xT _ _ _ _ c]⟩,by simp only;omega⟩;have hs:=AZ ah P' x y Q;simp only[Mh];rw[←hs,←hDm,←hlen];rw[List.set_append_left _ _ (by simp;omega),List.set_append_left _ _ (by simp;omega)] at hh;exact hh
  ·right;obtain⟨n',hh⟩:=Jp hcmp (fun q=>c (uD.1 q)) m N i j P'.length hN (D.map ah++Z) e1 hj (by omega) (by omega) (by simp;omega) (by simp;omega) (by omega) (by omega) a1 a2 n;refine⟨_,hh,by simp,⟨j,D,n'⟩,rfl, ?_⟩;simp only;rw[hD,←hR,xS]
   ·simp
   ·intro z hz;rcases List.mem_append.1 hz with q|q
    ·have:=(List.pairwise_append.1 hsort).2.2 z q y (by simp);omega
    ·simp at q;subst q;omega
def ml(k:bp→Int)(l:List bp)(i:Nat):List bp:=fv k (l.take i)++l.drop i
theorem Cs(k:bp→Int)(l:List bp)(i:Nat):(ml k l i).length=l.length:=by
 simp only[ml,ax,iZ,eD,List.length_drop];omega
structure OW where
 i:Nat
 n:Nat
def Ll(f:Nat)(Z:List (List T))(k:bp→Int)(l:List bp)(s:OW):St:={t:=[(0,.c (.row 0 0 0 l.length)),(1,.c (I 0)),(2,.c (I l.length)),(3,.c (.fn f [])),(8,.c (I s.i))],o:=[(0,⟨0,4,true,false,(ml k l s.i).map ah++Z⟩)],n:=s.n}
theorem Jm{f:Nat}{k:bp→Int}(hf:∀x y:bp,run M f [.a (ah x),.a (ah y)] []=some (.c (I (sf (k x) (k y))),[]))(m:Nat)(Z:List (List T))(l:List bp)(hN:l.length≤1048576)(hm:l.length<m)(s:OW)(hs:1≤s.i∧s.i<l.length):
  ∃n',ct (run M) m ar.l0 (Ll f Z k l s)=some (.normal,Ll f Z k l ⟨s.i+1,n'⟩):=by
 obtain⟨i,n⟩:=s;obtain⟨h1,h2⟩:=hs;simp only at h1 h2;have htk:l.take (i+1)=l.take i++[l[i]]:=iA l i h2;have hdr:l.drop i=l[i]::l.drop (i+1):=bD h2;have hR:iR k (fv k (l.take i)) l[i]++l.drop (i+1)=ml k l (i+1):=by
  simp only[ml,htk];congr 1;unfold fv;rw[List.foldl_append];rfl
 obtain⟨r,hr,⟨⟨j,D,n'⟩,rfl,hD⟩⟩:=kW (f:=ct (run M) m ar.l1) (Mh f l.length i Z) (OX k l.length (ml k l (i+1))) (fun s=>s.j)
  (fun r=>∃s',r=(.exit 2,OA f l.length i Z s')∧s'.D=ml k l (i+1)) (fun s hs=>Jn hf m l.length i hN Z _ s hs) m ⟨i,ml k l i,n+48+32⟩
  ⟨Cs k l i,h2,fv k (l.take i),l[i],l.drop (i+1),by rw[iZ];simp;omega,by simp only[ml,hdr],oJ _,hR⟩ (by simp only;omega)
 simp only at hD;subst hD;simp only[Mh,OA] at hr;have e5:=cA (i:=i) (by omega);simp only[Ll];generalize (ml k l i).map ah++Z=r0 at*;generalize (ml k l (i+1)).map ah++Z=r1 at*;simp (maxSteps:=9^9) [ar.l0,hr,h2,e5]
def rU(l:List bp)(Z:List (List T)):Nat×Ob:=(0,⟨0,4,true,false,l.map ah++Z⟩)
theorem Cu(k:bp→Int)(l:List bp):ml k l l.length=fv k l:=by simp[ml]
theorem Cr(k:bp→Int)(l:List bp):ml k l 1=l:=by
 cases l with
 |nil=>rfl
 |cons x l=>simp[ml,fv,iR]
def NN(f:Nat)(Z:List (List T))(k:bp→Int)(l:List bp)(s:OW):St:={t:=[(0,.c (.row 0 0 0 l.length)),(1,.c (I 0)),(2,.c (I l.length)),(3,.c (.fn f [])),(8,.c (I s.i)),(14,.c (.bool false))],o:=[(0,⟨0,4,true,false,(ml k l s.i).map ah++Z⟩)],n:=s.n}
theorem Lk{f:Nat}{k:bp→Int}(m:Nat)(Z:List (List T))(l:List bp)(i n:Nat)(h:l.length≤i):∃n',ct (run M) m ar.l0 (Ll f Z k l ⟨i,n⟩)=some (.exit 0,NN f Z k l ⟨i,n'⟩):=by
 have h2:¬i<l.length:=by omega
 simp only[Ll,NN];generalize (ml k l i).map ah++Z=r0 at*;simp (maxSteps:=9^9) [ar.l0,h2]
theorem ar.al(h:ar.k M){f:Nat}{k:bp→Int}(hf:∀x y:bp,run M f [.a (ah x),.a (ah y)] []=some (.c (I (sf (k x) (k y))),[]))
  (l:List bp) (Z:List (List T)) (hN:l.length≤1048576):run M 486 [.c (.row 0 0 0 l.length),.c (I 0),.c (I l.length),.c (.fn f [])] [rU l Z]=some (.lN [],[rU (fv k l) Z]):=by
 refine aA (b:=ar.m) h ⟨l.length+1, ?_⟩;obtain⟨r,hr,⟨⟨i,n'⟩,rfl,hi⟩⟩:=kW (f:=ct (run M) (l.length+1) ar.l0) (Ll f Z k l) (fun s=>1≤s.i∧(s.i≤l.length∨s.i=1)) (fun s=>l.length-s.i)
  (fun r=>∃s',r=(.exit 0,NN f Z k l s')∧(s'.i=l.length∨l.length=0∧s'.i=1))
  (fun s hs=>by
   obtain⟨i,n⟩:=s;by_cases c:i<l.length
   ·left;obtain⟨n',hh⟩:=Jm hf (l.length+1) Z l hN (by omega) ⟨i,n⟩ ⟨hs.1,c⟩;exact⟨_,hh,⟨by simp only;omega,by simp only;omega⟩,by simp only;omega⟩
   ·right;obtain⟨n',hh⟩:=Lk (M:=M) (f:=f) (k:=k) (l.length+1) Z l i n (by omega);simp only at hs;exact⟨_,hh,by simp,_,rfl,by simp only;omega⟩) (l.length+1) ⟨1,2000048⟩ ⟨by simp,by simp⟩ (by simp only;omega)
 have e1:ml k l i=fv k l:=by
  rcases hi with hi|⟨h0,hi⟩
  ·simp only at hi;rw[hi,Cu]
  ·have:l=[]:=aZ h0;subst this;simp[ml,fv]
 simp only[Ll,NN,e1,Cr] at hr;have e2:IntKind.i64.wrap 1=1:=by decide
 have e3:((1:Nat):Int)=1:=rfl;rw[e3] at hr;simp only[rU];generalize l.map ah++Z=r0 at*;generalize (fv k l).map ah++Z=r1 at*;simp (maxSteps:=9^9) [ba,ar.m,ar.b,ab,hr,e2]
theorem ar.rest(h:ar.k M){f:Nat}(l:List bp)(Z:List (List T))(hN:l.length≤1048576):
  run M 486 [.c (.row 0 0 0 l.length),.c (I l.length),.c (I l.length),.c (.fn f [])] [rU l Z]=some (.lN [],[rU l Z]):=by
 refine aA (b:=ar.m) h ⟨1, ?_⟩;have e2:IntKind.i64.wrap ((l.length:Int)+1)=(l.length:Int)+1:=wrap_i64 (by omega) (by omega);have e3:¬(l.length:Int)+1<l.length:=by omega
 simp only[rU];have e4:l.length≤(l.map ah++Z).length:=by simp
 generalize l.map ah++Z=r0 at*;simp (maxSteps:=9^9) [ba,ar.m,ar.b,ab,eZ,ar.l0,e2,e3]
theorem aM.al(h:aM.k M){f:Nat}{k:bp→Int}(hf:∀x y:bp,run M f [.a (ah x),.a (ah y)] []=some (.c (I (sf (k x) (k y))),[]))
  (l:List bp) (Z:List (List T)) (hN:l.length≤20):run M 471 [.c (.row 0 0 0 l.length),.c (I l.length),.c (.fn f [])] [rU l Z]=some (.lN [],[rU (fv k l) Z]):=by
 obtain⟨h0,k1⟩:=h;have h1:=ar.al k1 hf l Z (by omega);have h2:=ar.rest k1 (f:=f) (fv k l) Z (by rw[iZ];omega);rw[iZ] at h2;refine aA (b:=aM.m) h0 ⟨2, ?_⟩;have e1:l.length≤(l.map ah++Z).length:=by simp
 have e2:l.length≤((fv k l).map ah++Z).length:=by simp[iZ]
 simp only[rU] at h1 h2 ⊢;generalize l.map ah++Z=r0 at*;generalize (fv k l).map ah++Z=r1 at*;by_cases c:l.length=20
 ·generalize l.length=N at*;subst c;simp only[bO] at h1 h2;have w1:IntKind.i64.wrap 40=40:=by decide
  simp (maxSteps:=9^9) [ba,aM.m,aM.b,ab,h1,h2,w1,eZ,aM.l0,aM.l1,e1,e2]
 ·have c1:¬(20:Int)≤l.length:=by omega
  have c2:¬(20:Int)<l.length:=by omega
  have c3:¬20≤l.length:=by omega
  have c4:¬20<l.length:=by omega
  simp (maxSteps:=9^9) [ba,aM.m,aM.b,ab,h1,c1,c2,eZ,aM.l0,aM.l1,e1]
theorem aV.al(h:aV.k M){f:Nat}{k:bp→Int}(hf:∀x y:bp,run M f [.a (ah x),.a (ah y)] []=some (.c (I (sf (k x) (k y))),[]))
  (l:List bp) (Z:List (List T)) (hN:l.length≤20):run M 455 [.c (.row 0 0 0 l.length),.c (.fn f [])] [rU l Z]=some (.lN [],[rU (fv k l) Z]):=by
 have h1:=aM.al h.2 hf l Z hN;refine aA (b:=aV.m) h.1 ⟨0, ?_⟩;have e1:l.length≤(l.map ah++Z).length:=by simp
 simp only[rU] at h1 ⊢;generalize l.map ah++Z=r0 at*;generalize (fv k l).map ah++Z=r1 at*;simp (maxSteps:=9^9) [ba,aV.m,aV.b,ab,h1,e1]
def ub{α:Type}(p:α→Bool)(l:List α)(i:Nat):Bool:=match l[i]? with|some m=>p m|none=>false
theorem j2{α:Type}(p:α→Bool)(l:List α)(i:Nat)(h:i<l.length):ub p l i=p l[i]:=by simp[ub,h]
def Mj(f:Nat)(cs:List T)(l:List bp)(i:Nat)(x:Nat):St:={t:=[(0,.c (ae l)),(1,.c (.fn f [.vp cs 0])),(7,.c (I l.length)),(8,.c (I i))],o:=[],n:=x}
theorem aC.gen(h:aC.k M){f:Nat}{cs:List T}{p:bp→Bool}(hf:∀m,run M f [.a (ah m),.c (.vp cs 0)] []=some (.c (.bool (p m)),[]))(l:List bp)(hl:l.length≤1048576):
  run M 161 [.c (ae l),.c (.fn f [.vp cs 0])] []=some (.c (I (dO (eJ (ub p l) l.length))),[]):=by
 refine aA (b:=aC.m) h ⟨l.length+1, ?_⟩;obtain⟨g',hr⟩:=m_ (f:=ct (run M) (l.length+1) aC.l0) l.length (ub p l) (Mj f cs l) j6 pL
  (fun i hi x c=>by
   have hm:=hf l[i];rw[j2 p l i hi] at c;rw[c] at hm;have e5:=cA (i:=i) (by omega);simp[Mj,aC.l0,hi,hm,ah,e5])
  (fun i hi x c=>by
   have hm:=hf l[i];rw[j2 p l i hi] at c;rw[c] at hm;simp[Mj,aC.l0,hi,hm,ah,j6];exact⟨⟨[],[],_⟩,rfl⟩)
  (fun x=>by simp[Mj,aC.l0,j6])
 cases hm:eJ (ub p l) l.length with
 |none=>
  simp[Mj,hm,j6] at hr;simp[ba,aC.m,aC.b,ab,hr,dO]
 |some k=>
  simp[Mj,hm,j6] at hr;simp[ba,aC.m,aC.b,ab,hr,dO]
theorem JH{f:Nat}{cs:List T}{g u:Int}{fl:List (List T)}{tx:List UInt8}(hf:run M f [.a [I g,I u,.sl false 3 fl,S tx],.c (.vp cs 0)] []=some (.c (.bool false),[]))(m N i j:Nat)(hN:N≤1048576)(rr:List (List T))(hj:j<N)(hi:i<N)(e2:rr.length=N)
  (a1:∀hh,rr[j]'hh=[I g,I u,.sl false 3 fl,S tx]) (n:Nat) (ri:List T) (a2:rr[i]? =some ri) (a3:ri.length=4):
  ∃n',ct (run M) m aD.l0 {t:=[(0,.c (.row 0 0 0 N)),(1,.c (.fn f [.vp cs 0])),(5,.c (I i)),(6,.c (I j))],o:=[(0,⟨0,4,true,false,rr⟩)],n:=n}=
   some (.normal,{t:=[(0,.c (.row 0 0 0 N)),(1,.c (.fn f [.vp cs 0])),(5,.c (I (i+1:Nat))),(6,.c (I (j+1:Nat)))],o:=[(0,⟨0,4,true,false,rr.set i [I g,I u,.sl false 3 fl,S tx]⟩)],n:=n'}):=by
 have e5:=cA (i:=i) (by omega);have e6:=cA (i:=j) (by omega)
 match ri,a3 with
 |[r0,r1,r2,r3],_=>
  have a4:∀hh,rr[i]'hh=[r0,r1,r2,r3]:=by
   intro hh;rw[cj hh] at a2;exact Option.some.inj a2
  clear a2;simp (maxSteps:=9^9) [aD.l0,setAt,hf,hj,hi,e2,a1,a4,e5,e6]
theorem JI{f:Nat}{cs:List T}{g u:Int}{fl:List (List T)}{tx:List UInt8}(hf:run M f [.a [I g,I u,.sl false 3 fl,S tx],.c (.vp cs 0)] []=some (.c (.bool true),[]))(m N i j:Nat)(hN:N≤1048576)(rr:List (List T))(hj:j<N)(e2:rr.length=N)
  (a1:∀hh,rr[j]'hh=[I g,I u,.sl false 3 fl,S tx]) (n:Nat):
  ∃n',ct (run M) m aD.l0 {t:=[(0,.c (.row 0 0 0 N)),(1,.c (.fn f [.vp cs 0])),(5,.c (I i)),(6,.c (I j))],o:=[(0,⟨0,4,true,false,rr⟩)],n:=n}=
   some (.normal,{t:=[(0,.c (.row 0 0 0 N)),(1,.c (.fn f [.vp cs 0])),(5,.c (I i)),(6,.c (I (j+1:Nat)))],o:=[(0,⟨0,4,true,false,rr⟩)],n:=n'}):=by
 have e6:=cA (i:=j) (by omega);simp (maxSteps:=9^9) [aD.l0,setAt,hf,hj,e2,a1,e6]
theorem Lu{f:Nat}{cs:List T}(m N i j:Nat)(rr:List (List T))(hj:¬j<N)(n:Nat):
  ∃n',ct (run M) m aD.l0 {t:=[(0,.c (.row 0 0 0 N)),(1,.c (.fn f [.vp cs 0])),(5,.c (I i)),(6,.c (I j))],o:=[(0,⟨0,4,true,false,rr⟩)],n:=n}=
   some (.exit 0,{t:=[(0,.c (.row 0 0 0 N)),(1,.c (.fn f [.vp cs 0])),(5,.c (I i)),(6,.c (I j)),(19,.c (.bool false))],o:=[(0,⟨0,4,true,false,rr⟩)],n:=n'}):=by
 simp (maxSteps:=9^9) [aD.l0,hj]
structure N3 where
 j:Nat
 D:List bp
 n:Nat
def lV(p:bp→Bool)(l:List bp)(j:Nat):List bp:=(l.take j).filter fun m=> !p m
def Lv(f:Nat)(cs:List T)(p:bp→Bool)(l:List bp)(s:N3):St:={t:=[(0,.c (.row 0 0 0 l.length)),(1,.c (.fn f [.vp cs 0])),(5,.c (I (lV p l s.j).length)),(6,.c (I s.j))],o:=[(0,⟨0,4,true,false,s.D.map ah⟩)],n:=s.n}
def OH(f:Nat)(cs:List T)(p:bp→Bool)(l:List bp)(s:N3):St:={t:=[(0,.c (.row 0 0 0 l.length)),(1,.c (.fn f [.vp cs 0])),(5,.c (I (lV p l s.j).length)),(6,.c (I s.j)),(19,.c (.bool false))],o:=[(0,⟨0,4,true,false,s.D.map ah⟩)],n:=s.n}
structure Nl (p:bp→Bool) (l:List bp) (s:N3):Prop where
 j:s.j≤l.length
 len:s.D.length=l.length
 tk:s.D.take (lV p l s.j).length=lV p l s.j
 dr:s.D.drop s.j=l.drop s.j
 lt:(lV p l s.j).length<s.j
theorem JG{f:Nat}{cs:List T}{p:bp→Bool}(hf:∀m,run M f [.a (ah m),.c (.vp cs 0)] []=some (.c (.bool (p m)),[]))(k:Nat)(l:List bp)(hN:l.length≤1048576)(s:N3)(hs:Nl p l s):
  (∃s',ct (run M) k aD.l0 (Lv f cs p l s)=some (.normal,Lv f cs p l s')∧Nl p l s'∧l.length-s'.j<l.length-s.j)∨
   (∃r,ct (run M) k aD.l0 (Lv f cs p l s)=some r∧r.1≠.normal∧∃s',r=(.exit 0,OH f cs p l s')∧s'.j=l.length∧Nl p l s'):=by
 obtain⟨j,D,n⟩:=s;obtain⟨h1,h2,h3,h4,h5⟩:=hs;simp only at h1 h2 h3 h4 h5;by_cases c:j<l.length
 ·left;have hD:D[j]'(by omega)=l[j]:=by
   have q1:=bD (l:=D) (i:=j) (by omega);have q2:=bD (l:=l) (i:=j) c;rw[h4,q2] at q1;exact(List.cons.inj q1).1.symm
  have hdr:D.drop (j+1)=l.drop (j+1):=by
   have q1:=bD (l:=D) (i:=j) (by omega);have q2:=bD (l:=l) (i:=j) c;rw[h4,q2] at q1;exact(List.cons.inj q1).2.symm
  have a1:∀hh,(D.map ah)[j]'hh=ah l[j]:=by intro hh;simp[hD]
  have e2:(D.map ah).length=l.length:=by simpa using h2
  have hm:=hf l[j];have ek:lV p l (j+1)=lV p l j++if p l[j]=true then [] else [l[j]]:=by
   simp only[lV,iA l j c,List.filter_append];cases q:p l[j]<;>simp[q]
  cases q:p l[j] with
  |true=>
   rw[q] at hm;obtain⟨n',hh⟩:=JI hm k l.length (lV p l j).length j hN (D.map ah) c e2 a1 n;rw[q] at ek;simp only[if_true,dp] at ek;refine⟨⟨j+1,D,n'⟩, ?_,⟨by simp only;omega,h2,by simp only[ek];exact h3,hdr,by simp only[ek];omega⟩,by simp only;omega⟩;simp only[Lv,ek];exact hh
  |false=>
   rw[q] at hm;have hi:(lV p l j).length<l.length:=by omega
   obtain⟨n',hh⟩:=JH hm k l.length (lV p l j).length j hN (D.map ah) c hi e2 a1 n (ah (D[(lV p l j).length]'(by omega))) (by rw[ja,cj (by omega)];rfl) rfl;rw[q] at ek;simp only[au,if_false] at ek;have el:(lV p l (j+1)).length=(lV p l j).length+1:=by rw[ek];simp
   refine⟨⟨j+1,D.set (lV p l j).length l[j],n'⟩, ?_,⟨by simp only;omega,by simpa using h2, ?_, ?_,by simp only[el];omega⟩,by simp only;omega⟩
   ·simp only[Lv,el,iU];exact hh
   ·show (D.set (lV p l j).length l[j]).take (lV p l (j+1)).length=lV p l (j+1);rw[el,ek,iA _ _ (by simp;omega),List.take_set_of_le (Nat.le_refl _),h3];simp
   ·simp only;rw[List.drop_set_of_lt (by omega)];exact hdr
 ·right;have hj:j=l.length:=by omega
  obtain⟨n',hh⟩:=Lu (M:=M) (f:=f) (cs:=cs) k l.length (lV p l j).length j (D.map ah) c n;exact⟨_,hh,by simp,⟨j,D,n'⟩,rfl,hj,⟨h1,h2,h3,h4,h5⟩⟩
theorem aD.al(h:aD.k M){f:Nat}{cs:List T}{p:bp→Bool}(hf:∀m,run M f [.a (ah m),.c (.vp cs 0)] []=some (.c (.bool (p m)),[]))(l:List bp)(hl:l.length≤1048576):
  run M 453 [.c (.row 0 0 0 l.length),.c (.fn f [.vp cs 0])] [rU l []]=
   some (.c (.row 0 0 0 (l.filter fun m=> !p m).length),[(0,⟨0,4,true,false,(l.filter fun m=> !p m).map ah++List.replicate (l.length-(l.filter fun m=> !p m).length) s9⟩)]):=by
 obtain⟨h0,k1⟩:=h;have h1:=aC.gen k1 hf l hl;refine aA (b:=aD.m) h0 ⟨l.length+1, ?_⟩;have e0:(l.map ah).length=l.length:=by simp
 cases hq:eJ (ub p l) l.length with
 |none=>
  have hall:(l.filter fun m=> !p m)=l:=List.filter_eq_self.2 fun m hm=>by
   obtain⟨j,hj,rfl⟩:=bW hm;have:=mg hq j hj;rw[j2 p l j hj] at this;simp[this]
  rw[hall,Nat.sub_self,List.replicate_zero,dp];rw[hq] at h1;simp only[rU,ae,dO,dp] at h1 ⊢;generalize l.map ah=r0 at*;simp (maxSteps:=9^9) [ba,aD.m,aD.b,ab,h1,e0,aa]
 |some k=>
  rw[hq] at h1;obtain⟨hk1,hk2,hk3⟩:=mf hq;rw[j2 p l k hk1] at hk2;have ek:lV p l k=l.take k:=by
   refine List.filter_eq_self.2 fun m hm=> ?_
   obtain⟨j,hj,rfl⟩:=bW hm;have hj':j<k:=by simp at hj;omega
   have:=hk3 j hj';rw[j2 p l j (by omega)] at this;simp[this]
  have ek1:lV p l (k+1)=l.take k:=by
   simp only[lV,iA l k hk1,List.filter_append] at ek ⊢;rw[ek];simp[hk2]
  have el:(lV p l (k+1)).length=k:=by rw[ek1];simp;omega
  obtain⟨r,hr,⟨⟨j,D,n'⟩,rfl,hj,hI⟩⟩:=kW (f:=ct (run M) (l.length+1) aD.l0) (Lv f cs p l) (Nl p l) (fun s=>l.length-s.j)
   (fun r=>∃s',r=(.exit 0,OH f cs p l s')∧s'.j=l.length∧Nl p l s') (fun s hs=>JG hf (l.length+1) l hl s hs) (l.length+1) ⟨k+1,l,2000160⟩
   ⟨by simp only;omega,rfl,by show l.take (lV p l (k+1)).length=lV p l (k+1);rw[el,ek1],rfl,by simp only[el];omega⟩ (by simp only;omega)
  obtain⟨_,hlen,htk,_,hlt⟩:=hI;simp only at hj hlen htk hlt;subst hj;have ef:lV p l l.length=l.filter fun m=> !p m:=by simp[lV]
  rw[ef] at htk hlt;simp only[Lv,OH,el,ef] at hr;have e1:(D.map ah).length=l.length:=by simpa using hlen
  have e2:(D.map ah).take (l.filter fun m=> !p m).length=(l.filter fun m=> !p m).map ah:=by rw[←List.map_take,htk]
  have e3:((l.filter fun m=> !p m).map ah).length=(l.filter fun m=> !p m).length:=by simp
  have e5:=cA (i:=k) (by omega);have e6:((k+1:Nat):Int)=(k:Int)+1:=by omega
  have e7:¬(k:Int)= -1:=by omega
  rw[e6] at hr;simp only[rU,ae,dO,dp] at h1 ⊢;generalize (l.filter fun m=> !p m).map ah=rf at*;generalize (l.filter fun m=> !p m).length=nf at*;generalize D.map ah=rd at*;generalize l.map ah=r0 at*;clear hk2 hk3 ek ek1 el hq ef;generalize l.length=N at*;have e8:nf≤N:=by omega
  have e9:¬N=nf:=by omega
  have e10:¬nf=N:=by omega
  have e11:nf+(N-nf)=N:=by omega
  have e12:¬N-nf=0:=by omega
  have e13:List.drop N rd=[]:=eO (by omega);simp (maxSteps:=9^9) [ba,aD.m,aD.b,ab,h1,hr,e0,e1,e2,e3,e5,e7,e8,e10,e11,e12,e13,aa]
theorem fB.al(h:fB.k M)(x y:bA):run M 481 [.a (af x),.a (af y)] []=some (.c (I (sf x.gid y.gid)),[]):=by
 have h1:=fm.al h.2 x.gid y.gid;refine aA (b:=fB.m) h.1 ⟨0, ?_⟩;simp (maxSteps:=9^9) [ba,fB.m,fB.b,ab,h1,af]
structure N4 where
 j:Nat
 D:List bA
 n:Nat
def Mk(f N i:Nat)(Z:List (List T))(s:N4):St:={t:=[(0,.c (.row 0 0 0 N)),(1,.c (I 0)),(2,.c (I N)),(3,.c (.fn f [])),(8,.c (I i)),(9,.c (I s.j))],o:=[(0,⟨0,7,true,false,s.D.map af++Z⟩)],n:=s.n}
def ON(f N i:Nat)(Z:List (List T))(s:N4):St:={t:=[(0,.c (.row 0 0 0 N)),(1,.c (I 0)),(2,.c (I N)),(3,.c (.fn f [])),(8,.c (I i)),(9,.c (I s.j)),(34,.c (.bool false))],o:=[(0,⟨0,7,true,false,s.D.map af++Z⟩)],n:=s.n}
structure O0 (k:bA→Int) (N:Nat) (R:List bA) (s:N4):Prop where
 len:s.D.length=N
 lt:s.j<N
 e:∃P x Q,P.length=s.j∧s.D=P++x::Q∧oh k P∧iR k P x++Q=R
theorem JM{f:Nat}{g t w u g' t' w' u':Int}{nm nm':List UInt8}{fl fl' tx tx':List (List T)}{c:Int}
  (hcmp:run M f [.a [I g,S nm,I t,I w,I u,.sl false 4 fl,.sl false 1 tx],.a [I g',S nm',I t',I w',I u',.sl false 4 fl',.sl false 1 tx']] []=some (.c (I c),[])) (hc:c<0) (m N i j p:Nat) (hN:N≤1048576) (rr:List (List T)) (e1:IntKind.i64.wrap ((j:Int)-1)=(p:Int)) (hj:j<N) (hp:p<N) (h0:0<j) (e2:j<rr.length) (e3:p<rr.length) (hne:¬j=p) (hne':¬p=j)
  (a1:∀hh,rr[p]'hh=[I g',S nm',I t',I w',I u',.sl false 4 fl',.sl false 1 tx']) (a2:∀hh,rr[j]'hh=[I g,S nm,I t,I w,I u,.sl false 4 fl,.sl false 1 tx]) (n:Nat):
  ∃n',ct (run M) m ay.l1 {t:=[(0,.c (.row 0 0 0 N)),(1,.c (I 0)),(2,.c (I N)),(3,.c (.fn f [])),(8,.c (I i)),(9,.c (I j))],o:=[(0,⟨0,7,true,false,rr⟩)],n:=n}=
   some (.normal,{t:=[(0,.c (.row 0 0 0 N)),(1,.c (I 0)),(2,.c (I N)),(3,.c (.fn f [])),(8,.c (I i)),(9,.c (I p))],o:=[(0,⟨0,7,true,false,(rr.set j [I g',S nm',I t',I w',I u',.sl false 4 fl',.sl false 1 tx']).set p [I g,S nm,I t,I w,I u,.sl false 4 fl,.sl false 1 tx]⟩)],n:=n'}):=by
 simp (maxSteps:=9^9) [ay.l1,ab,setAt,hcmp,hc,a1,a2,e1,e2,e3,hj,hp,h0,hne]
theorem JN{f:Nat}{g t w u g' t' w' u':Int}{nm nm':List UInt8}{fl fl' tx tx':List (List T)}{c:Int}
  (hcmp:run M f [.a [I g,S nm,I t,I w,I u,.sl false 4 fl,.sl false 1 tx],.a [I g',S nm',I t',I w',I u',.sl false 4 fl',.sl false 1 tx']] []=some (.c (I c),[])) (hc:¬c<0) (m N i j p:Nat) (hN:N≤1048576) (rr:List (List T)) (e1:IntKind.i64.wrap ((j:Int)-1)=(p:Int)) (hj:j<N) (hp:p<N) (h0:0<j) (e2:j<rr.length) (e3:p<rr.length) (hne:¬j=p) (hne':¬p=j)
  (a1:∀hh,rr[p]'hh=[I g',S nm',I t',I w',I u',.sl false 4 fl',.sl false 1 tx']) (a2:∀hh,rr[j]'hh=[I g,S nm,I t,I w,I u,.sl false 4 fl,.sl false 1 tx]) (n:Nat):
  ∃n',ct (run M) m ay.l1 {t:=[(0,.c (.row 0 0 0 N)),(1,.c (I 0)),(2,.c (I N)),(3,.c (.fn f [])),(8,.c (I i)),(9,.c (I j))],o:=[(0,⟨0,7,true,false,rr⟩)],n:=n}=
   some (.exit 2,{t:=[(0,.c (.row 0 0 0 N)),(1,.c (I 0)),(2,.c (I N)),(3,.c (.fn f [])),(8,.c (I i)),(9,.c (I j)),(34,.c (.bool false))],o:=[(0,⟨0,7,true,false,rr⟩)],n:=n'}):=by
 simp (maxSteps:=9^9) [ay.l1,ab,hcmp,hc,a1,a2,e1,e2,e3,hj,hp,h0]
theorem Ly{f:Nat}(m N i:Nat)(rr:List (List T))(n:Nat):
  ∃n',ct (run M) m ay.l1 {t:=[(0,.c (.row 0 0 0 N)),(1,.c (I 0)),(2,.c (I N)),(3,.c (.fn f [])),(8,.c (I i)),(9,.c (I 0))],o:=[(0,⟨0,7,true,false,rr⟩)],n:=n}=
   some (.exit 2,{t:=[(0,.c (.row 0 0 0 N)),(1,.c (I 0)),(2,.c (I N)),(3,.c (.fn f [])),(8,.c (I i)),(9,.c (I 0)),(34,.c (.bool false))],o:=[(0,⟨0,7,true,false,rr⟩)],n:=n'}):=by
 simp (maxSteps:=9^9) [ay.l1,ab]
theorem JL{f:Nat}{k:bA→Int}(hf:∀x y:bA,run M f [.a (af x),.a (af y)] []=some (.c (I (sf (k x) (k y))),[]))(m N i:Nat)(hN:N≤1048576)(Z:List (List T))(R:List bA)(s:N4)(hs:O0 k N R s):
  (∃s',ct (run M) m ay.l1 (Mk f N i Z s)=some (.normal,Mk f N i Z s')∧O0 k N R s'∧s'.j<s.j)∨
   (∃r,ct (run M) m ay.l1 (Mk f N i Z s)=some r∧r.1≠.normal∧∃s',r=(.exit 2,ON f N i Z s')∧s'.D=R):=by
 obtain⟨j,D,n⟩:=s;obtain⟨hl,hj,P,x,Q,hP,hD,hsort,hR⟩:=hs;simp only at hl hj hP hD;rcases List.eq_nil_or_concat P with rfl|⟨P',y,rfl⟩
 ·right;have hj0:j=0:=by simpa using hP.symm
  subst hj0;obtain⟨n',hh⟩:=Ly (M:=M) (f:=f) m N i (D.map af++Z) n;exact⟨_,hh,by simp,⟨0,D,n'⟩,rfl,by rw[←hR,hD];simp[iR]⟩
 ·rw[List.concat_eq_append] at hP hD hsort hR;have hlen:j=P'.length+1:=by simpa using hP.symm
  have hDm:D.map af=(P'++y::(x::Q)).map af:=by rw[hD];simp
  have hDm2:D.map af=((P'++[y])++x::Q).map af:=by rw[hD]
  have a1:∀hh,(D.map af++Z)[P'.length]'hh=af y:=by
   intro hh;rw[List.getElem_append_left (by simp;omega)];exact Af hDm P'.length rfl _
  have a2:∀hh,(D.map af++Z)[j]'hh=af x:=by
   intro hh;rw[List.getElem_append_left (by simp;omega)];exact Af hDm2 j (by simp[hlen]) _
  have hcmp:=hf x y;have e1:IntKind.i64.wrap ((j:Int)-1)=(P'.length:Int):=by rw[wrap_i64 (by omega) (by omega)];omega
  by_cases c:k x<k y
  ·left;obtain⟨n',hh⟩:=JM hcmp (uD.2 c) m N i j P'.length hN (D.map af++Z) e1 hj (by omega) (by omega) (by simp;omega) (by simp;omega) (by omega) (by omega) a1 a2 n;refine⟨⟨P'.length,P'++x::(y::Q),n'⟩, ?_,⟨by simp only;rw[hD] at hl;simp at hl ⊢;omega,by simp only;omega,P',x,y::Q,rfl,rfl,(List.pairwise_append.1 hsort).1,by rw[←hR,xT _ _ _ _ c]⟩,by simp only;omega⟩;have hs:=AZ af P' x y Q;simp only[Mk];rw[←hs,←hDm,←hlen];rw[List.set_append_left _ _ (by simp;omega),List.set_append_left _ _ (by simp;omega)] at hh;exact hh
  ·right;obtain⟨n',hh⟩:=JN hcmp (fun q=>c (uD.1 q)) m N i j P'.length hN (D.map af++Z) e1 hj (by omega) (by omega) (by simp;omega) (by simp;omega) (by omega) (by omega) a1 a2 n;refine⟨_,hh,by simp,⟨j,D,n'⟩,rfl, ?_⟩;simp only;rw[hD,←hR,xS]
   ·simp
   ·intro z hz;rcases List.mem_append.1 hz with q|q
    ·have:=(List.pairwise_append.1 hsort).2.2 z q y (by simp);omega
    ·simp at q;subst q;omega
def kV(k:bA→Int)(l:List bA)(i:Nat):List bA:=fv k (l.take i)++l.drop i
theorem AX(k:bA→Int)(l:List bA)(i:Nat):(kV k l i).length=l.length:=by
 simp only[kV,ax,iZ,eD,List.length_drop];omega
structure OZ where
 i:Nat
 n:Nat
def Lw(f:Nat)(Z:List (List T))(k:bA→Int)(l:List bA)(s:OZ):St:={t:=[(0,.c (.row 0 0 0 l.length)),(1,.c (I 0)),(2,.c (I l.length)),(3,.c (.fn f [])),(8,.c (I s.i))],o:=[(0,⟨0,7,true,false,(kV k l s.i).map af++Z⟩)],n:=s.n}
theorem JK{f:Nat}{k:bA→Int}(hf:∀x y:bA,run M f [.a (af x),.a (af y)] []=some (.c (I (sf (k x) (k y))),[]))(m:Nat)(Z:List (List T))(l:List bA)(hN:l.length≤1048576)(hm:l.length<m)(s:OZ)(hs:1≤s.i∧s.i<l.length):
  ∃n',ct (run M) m ay.l0 (Lw f Z k l s)=some (.normal,Lw f Z k l ⟨s.i+1,n'⟩):=by
 obtain⟨i,n⟩:=s;obtain⟨h1,h2⟩:=hs;simp only at h1 h2;have htk:l.take (i+1)=l.take i++[l[i]]:=iA l i h2;have hdr:l.drop i=l[i]::l.drop (i+1):=bD h2;have hR:iR k (fv k (l.take i)) l[i]++l.drop (i+1)=kV k l (i+1):=by
  simp only[kV,htk];congr 1;unfold fv;rw[List.foldl_append];rfl
 obtain⟨r,hr,⟨⟨j,D,n'⟩,rfl,hD⟩⟩:=kW (f:=ct (run M) m ay.l1) (Mk f l.length i Z) (O0 k l.length (kV k l (i+1))) (fun s=>s.j)
  (fun r=>∃s',r=(.exit 2,ON f l.length i Z s')∧s'.D=kV k l (i+1)) (fun s hs=>JL hf m l.length i hN Z _ s hs) m ⟨i,kV k l i,n+48+32⟩
  ⟨AX k l i,h2,fv k (l.take i),l[i],l.drop (i+1),by rw[iZ];simp;omega,by simp only[kV,hdr],oJ _,hR⟩ (by simp only;omega)
 simp only at hD;subst hD;simp only[Mk,ON] at hr;have e5:=cA (i:=i) (by omega);simp only[Lw];generalize (kV k l i).map af++Z=r0 at*;generalize (kV k l (i+1)).map af++Z=r1 at*;simp (maxSteps:=9^9) [ay.l0,hr,h2,e5]
def sV(l:List bA)(Z:List (List T)):Nat×Ob:=(0,⟨0,7,true,false,l.map af++Z⟩)
theorem AY(k:bA→Int)(l:List bA):kV k l l.length=fv k l:=by simp[kV]
theorem AW(k:bA→Int)(l:List bA):kV k l 1=l:=by
 cases l with
 |nil=>rfl
 |cons x l=>simp[kV,fv,iR]
def NT(f:Nat)(Z:List (List T))(k:bA→Int)(l:List bA)(s:OZ):St:={t:=[(0,.c (.row 0 0 0 l.length)),(1,.c (I 0)),(2,.c (I l.length)),(3,.c (.fn f [])),(8,.c (I s.i)),(14,.c (.bool false))],o:=[(0,⟨0,7,true,false,(kV k l s.i).map af++Z⟩)],n:=s.n}
theorem Lx{f:Nat}{k:bA→Int}(m:Nat)(Z:List (List T))(l:List bA)(i n:Nat)(h:l.length≤i):∃n',ct (run M) m ay.l0 (Lw f Z k l ⟨i,n⟩)=some (.exit 0,NT f Z k l ⟨i,n'⟩):=by
 have h2:¬i<l.length:=by omega
 simp only[Lw,NT];generalize (kV k l i).map af++Z=r0 at*;simp (maxSteps:=9^9) [ay.l0,h2]
theorem ay.al(h:ay.k M){f:Nat}{k:bA→Int}(hf:∀x y:bA,run M f [.a (af x),.a (af y)] []=some (.c (I (sf (k x) (k y))),[]))
  (l:List bA) (Z:List (List T)) (hN:l.length≤1048576):run M 492 [.c (.row 0 0 0 l.length),.c (I 0),.c (I l.length),.c (.fn f [])] [sV l Z]=some (.lN [],[sV (fv k l) Z]):=by
 refine aA (b:=ay.m) h ⟨l.length+1, ?_⟩;obtain⟨r,hr,⟨⟨i,n'⟩,rfl,hi⟩⟩:=kW (f:=ct (run M) (l.length+1) ay.l0) (Lw f Z k l) (fun s=>1≤s.i∧(s.i≤l.length∨s.i=1)) (fun s=>l.length-s.i)
  (fun r=>∃s',r=(.exit 0,NT f Z k l s')∧(s'.i=l.length∨l.length=0∧s'.i=1))
  (fun s hs=>by
   obtain⟨i,n⟩:=s;by_cases c:i<l.length
   ·left;obtain⟨n',hh⟩:=JK hf (l.length+1) Z l hN (by omega) ⟨i,n⟩ ⟨hs.1,c⟩;exact⟨_,hh,⟨by simp only;omega,by simp only;omega⟩,by simp only;omega⟩
   ·right;obtain⟨n',hh⟩:=Lx (M:=M) (f:=f) (k:=k) (l.length+1) Z l i n (by omega);simp only at hs;exact⟨_,hh,by simp,_,rfl,by simp only;omega⟩) (l.length+1) ⟨1,2000048⟩ ⟨by simp,by simp⟩ (by simp only;omega)
 have e1:kV k l i=fv k l:=by
  rcases hi with hi|⟨h0,hi⟩
  ·simp only at hi;rw[hi,AY]
  ·have:l=[]:=aZ h0;subst this;simp[kV,fv]
 simp only[Lw,NT,e1,AW] at hr;have e2:IntKind.i64.wrap 1=1:=by decide
 have e3:((1:Nat):Int)=1:=rfl;rw[e3] at hr;simp only[sV];generalize l.map af++Z=r0 at*;generalize (fv k l).map af++Z=r1 at*;simp (maxSteps:=9^9) [ba,ay.m,ay.b,ab,hr,e2]
theorem ay.rest(h:ay.k M){f:Nat}(l:List bA)(Z:List (List T))(hN:l.length≤1048576):
  run M 492 [.c (.row 0 0 0 l.length),.c (I l.length),.c (I l.length),.c (.fn f [])] [sV l Z]=some (.lN [],[sV l Z]):=by
 refine aA (b:=ay.m) h ⟨1, ?_⟩;have e2:IntKind.i64.wrap ((l.length:Int)+1)=(l.length:Int)+1:=wrap_i64 (by omega) (by omega);have e3:¬(l.length:Int)+1<l.length:=by omega
 simp only[sV];have e4:l.length≤(l.map af++Z).length:=by simp
 generalize l.map af++Z=r0 at*;simp (maxSteps:=9^9) [ba,ay.m,ay.b,ab,eZ,ay.l0,e2,e3]
theorem aP.al(h:aP.k M){f:Nat}{k:bA→Int}(hf:∀x y:bA,run M f [.a (af x),.a (af y)] []=some (.c (I (sf (k x) (k y))),[]))
  (l:List bA) (Z:List (List T)) (hN:l.length≤20):run M 490 [.c (.row 0 0 0 l.length),.c (I l.length),.c (.fn f [])] [sV l Z]=some (.lN [],[sV (fv k l) Z]):=by
 obtain⟨h0,k1⟩:=h;have h1:=ay.al k1 hf l Z (by omega);have h2:=ay.rest k1 (f:=f) (fv k l) Z (by rw[iZ];omega);rw[iZ] at h2;refine aA (b:=aP.m) h0 ⟨2, ?_⟩;have e1:l.length≤(l.map af++Z).length:=by simp
 have e2:l.length≤((fv k l).map af++Z).length:=by simp[iZ]
 simp only[sV] at h1 h2 ⊢;generalize l.map af++Z=r0 at*;generalize (fv k l).map af++Z=r1 at*;by_cases c:l.length=20
 ·generalize l.length=N at*;subst c;simp only[bO] at h1 h2;have w1:IntKind.i64.wrap 40=40:=by decide
  simp (maxSteps:=9^9) [ba,aP.m,aP.b,ab,h1,h2,w1,eZ,aP.l0,aP.l1,e1,e2]
 ·have c1:¬(20:Int)≤l.length:=by omega
  have c2:¬(20:Int)<l.length:=by omega
  have c3:¬20≤l.length:=by omega
  have c4:¬20<l.length:=by omega
  simp (maxSteps:=9^9) [ba,aP.m,aP.b,ab,h1,c1,c2,eZ,aP.l0,aP.l1,e1]
theorem a_.al(h:a_.k M){f:Nat}{k:bA→Int}(hf:∀x y:bA,run M f [.a (af x),.a (af y)] []=some (.c (I (sf (k x) (k y))),[]))
  (l:List bA) (Z:List (List T)) (hN:l.length≤20):run M 480 [.c (.row 0 0 0 l.length),.c (.fn f [])] [sV l Z]=some (.lN [],[sV (fv k l) Z]):=by
 have h1:=aP.al h.2 hf l Z hN;refine aA (b:=a_.m) h.1 ⟨0, ?_⟩;have e1:l.length≤(l.map af++Z).length:=by simp
 simp only[sV] at h1 ⊢;generalize l.map af++Z=r0 at*;generalize (fv k l).map af++Z=r1 at*;simp (maxSteps:=9^9) [ba,a_.m,a_.b,ab,h1,e1]
def Fl(f:Nat)(cs:List T)(l:List bA)(i:Nat)(x:Nat):St:={t:=[(0,.c (boxes l)),(1,.c (.fn f [.vp cs 0])),(7,.c (I l.length)),(8,.c (I i))],o:=[],n:=x}
theorem aB.gen(h:aB.k M){f:Nat}{cs:List T}{p:bA→Bool}(hf:∀m,run M f [.a (af m),.c (.vp cs 0)] []=some (.c (.bool (p m)),[]))(l:List bA)(hl:l.length≤1048576):
  run M 200 [.c (boxes l),.c (.fn f [.vp cs 0])] []=some (.c (I (dO (eJ (ub p l) l.length))),[]):=by
 refine aA (b:=aB.m) h ⟨l.length+1, ?_⟩;obtain⟨g',hr⟩:=m_ (f:=ct (run M) (l.length+1) aB.l0) l.length (ub p l) (Fl f cs l) j6 pL
  (fun i hi x c=>by
   have hm:=hf l[i];rw[j2 p l i hi] at c;rw[c] at hm;have e5:=cA (i:=i) (by omega);simp[Fl,aB.l0,hi,hm,af,e5])
  (fun i hi x c=>by
   have hm:=hf l[i];rw[j2 p l i hi] at c;rw[c] at hm;simp[Fl,aB.l0,hi,hm,af,j6];exact⟨⟨[],[],_⟩,rfl⟩)
  (fun x=>by simp[Fl,aB.l0,j6])
 cases hm:eJ (ub p l) l.length with
 |none=>
  simp[Fl,hm,j6] at hr;simp[ba,aB.m,aB.b,ab,hr,dO]
 |some k=>
  simp[Fl,hm,j6] at hr;simp[ba,aB.m,aB.b,ab,hr,dO]
theorem JQ{f:Nat}{cs:List T}{g t w u:Int}{nm:List UInt8}{fl tx:List (List T)}(hf:run M f [.a [I g,S nm,I t,I w,I u,.sl false 4 fl,.sl false 1 tx],.c (.vp cs 0)] []=some (.c (.bool false),[]))(m N i j:Nat)(hN:N≤1048576)(rr:List (List T))(hj:j<N)(hi:i<N)(e2:rr.length=N)
  (a1:∀hh,rr[j]'hh=[I g,S nm,I t,I w,I u,.sl false 4 fl,.sl false 1 tx]) (n:Nat) (ri:List T) (a2:rr[i]? =some ri) (a3:ri.length=7):
  ∃n',ct (run M) m aF.l0 {t:=[(0,.c (.row 0 0 0 N)),(1,.c (.fn f [.vp cs 0])),(5,.c (I i)),(6,.c (I j))],o:=[(0,⟨0,7,true,false,rr⟩)],n:=n}=
   some (.normal,{t:=[(0,.c (.row 0 0 0 N)),(1,.c (.fn f [.vp cs 0])),(5,.c (I (i+1:Nat))),(6,.c (I (j+1:Nat)))],o:=[(0,⟨0,7,true,false,rr.set i [I g,S nm,I t,I w,I u,.sl false 4 fl,.sl false 1 tx]⟩)],n:=n'}):=by
 have e5:=cA (i:=i) (by omega);have e6:=cA (i:=j) (by omega)
 match ri,a3 with
 |[r0,r1,r2,r3,r4,r5,r6],_=>
  have a4:∀hh,rr[i]'hh=[r0,r1,r2,r3,r4,r5,r6]:=by
   intro hh;rw[cj hh] at a2;exact Option.some.inj a2
  clear a2;simp (maxSteps:=9^9) [aF.l0,setAt,hf,hj,hi,e2,a1,a4,e5,e6]
theorem JR{f:Nat}{cs:List T}{g t w u:Int}{nm:List UInt8}{fl tx:List (List T)}(hf:run M f [.a [I g,S nm,I t,I w,I u,.sl false 4 fl,.sl false 1 tx],.c (.vp cs 0)] []=some (.c (.bool true),[]))(m N i j:Nat)(hN:N≤1048576)(rr:List (List T))(hj:j<N)(e2:rr.length=N)
  (a1:∀hh,rr[j]'hh=[I g,S nm,I t,I w,I u,.sl false 4 fl,.sl false 1 tx]) (n:Nat):
  ∃n',ct (run M) m aF.l0 {t:=[(0,.c (.row 0 0 0 N)),(1,.c (.fn f [.vp cs 0])),(5,.c (I i)),(6,.c (I j))],o:=[(0,⟨0,7,true,false,rr⟩)],n:=n}=
   some (.normal,{t:=[(0,.c (.row 0 0 0 N)),(1,.c (.fn f [.vp cs 0])),(5,.c (I i)),(6,.c (I (j+1:Nat)))],o:=[(0,⟨0,7,true,false,rr⟩)],n:=n'}):=by
 have e6:=cA (i:=j) (by omega);simp (maxSteps:=9^9) [aF.l0,setAt,hf,hj,e2,a1,e6]
theorem LC{f:Nat}{cs:List T}(m N i j:Nat)(rr:List (List T))(hj:¬j<N)(n:Nat):
  ∃n',ct (run M) m aF.l0 {t:=[(0,.c (.row 0 0 0 N)),(1,.c (.fn f [.vp cs 0])),(5,.c (I i)),(6,.c (I j))],o:=[(0,⟨0,7,true,false,rr⟩)],n:=n}=
   some (.exit 0,{t:=[(0,.c (.row 0 0 0 N)),(1,.c (.fn f [.vp cs 0])),(5,.c (I i)),(6,.c (I j)),(19,.c (.bool false))],o:=[(0,⟨0,7,true,false,rr⟩)],n:=n'}):=by
 simp (maxSteps:=9^9) [aF.l0,hj]
structure N5 where
 j:Nat
 D:List bA
 n:Nat
def lW(p:bA→Bool)(l:List bA)(j:Nat):List bA:=(l.take j).filter fun m=> !p m
def LD(f:Nat)(cs:List T)(p:bA→Bool)(l:List bA)(s:N5):St:={t:=[(0,.c (.row 0 0 0 l.length)),(1,.c (.fn f [.vp cs 0])),(5,.c (I (lW p l s.j).length)),(6,.c (I s.j))],o:=[(0,⟨0,7,true,false,s.D.map af⟩)],n:=s.n}
def OQ(f:Nat)(cs:List T)(p:bA→Bool)(l:List bA)(s:N5):St:={t:=[(0,.c (.row 0 0 0 l.length)),(1,.c (.fn f [.vp cs 0])),(5,.c (I (lW p l s.j).length)),(6,.c (I s.j)),(19,.c (.bool false))],o:=[(0,⟨0,7,true,false,s.D.map af⟩)],n:=s.n}
structure Nn (p:bA→Bool) (l:List bA) (s:N5):Prop where
 j:s.j≤l.length
 len:s.D.length=l.length
 tk:s.D.take (lW p l s.j).length=lW p l s.j
 dr:s.D.drop s.j=l.drop s.j
 lt:(lW p l s.j).length<s.j
theorem JP{f:Nat}{cs:List T}{p:bA→Bool}(hf:∀m,run M f [.a (af m),.c (.vp cs 0)] []=some (.c (.bool (p m)),[]))(k:Nat)(l:List bA)(hN:l.length≤1048576)(s:N5)(hs:Nn p l s):
  (∃s',ct (run M) k aF.l0 (LD f cs p l s)=some (.normal,LD f cs p l s')∧Nn p l s'∧l.length-s'.j<l.length-s.j)∨
   (∃r,ct (run M) k aF.l0 (LD f cs p l s)=some r∧r.1≠.normal∧∃s',r=(.exit 0,OQ f cs p l s')∧s'.j=l.length∧Nn p l s'):=by
 obtain⟨j,D,n⟩:=s;obtain⟨h1,h2,h3,h4,h5⟩:=hs;simp only at h1 h2 h3 h4 h5;by_cases c:j<l.length
 ·left;have hD:D[j]'(by omega)=l[j]:=by
   have q1:=bD (l:=D) (i:=j) (by omega);have q2:=bD (l:=l) (i:=j) c;rw[h4,q2] at q1;exact(List.cons.inj q1).1.symm
  have hdr:D.drop (j+1)=l.drop (j+1):=by
   have q1:=bD (l:=D) (i:=j) (by omega);have q2:=bD (l:=l) (i:=j) c;rw[h4,q2] at q1;exact(List.cons.inj q1).2.symm
  have a1:∀hh,(D.map af)[j]'hh=af l[j]:=by intro hh;simp[hD]
  have e2:(D.map af).length=l.length:=by simpa using h2
  have hm:=hf l[j];have ek:lW p l (j+1)=lW p l j++if p l[j]=true then [] else [l[j]]:=by
   simp only[lW,iA l j c,List.filter_append];cases q:p l[j]<;>simp[q]
  cases q:p l[j] with
  |true=>
   rw[q] at hm;obtain⟨n',hh⟩:=JR hm k l.length (lW p l j).length j hN (D.map af) c e2 a1 n;rw[q] at ek;simp only[if_true,dp] at ek;refine⟨⟨j+1,D,n'⟩, ?_,⟨by simp only;omega,h2,by simp only[ek];exact h3,hdr,by simp only[ek];omega⟩,by simp only;omega⟩;simp only[LD,ek];exact hh
  |false=>
   rw[q] at hm;have hi:(lW p l j).length<l.length:=by omega
   obtain⟨n',hh⟩:=JQ hm k l.length (lW p l j).length j hN (D.map af) c hi e2 a1 n (af (D[(lW p l j).length]'(by omega))) (by rw[ja,cj (by omega)];rfl) rfl;rw[q] at ek;simp only[au,if_false] at ek;have el:(lW p l (j+1)).length=(lW p l j).length+1:=by rw[ek];simp
   refine⟨⟨j+1,D.set (lW p l j).length l[j],n'⟩, ?_,⟨by simp only;omega,by simpa using h2, ?_, ?_,by simp only[el];omega⟩,by simp only;omega⟩
   ·simp only[LD,el,iU];exact hh
   ·show (D.set (lW p l j).length l[j]).take (lW p l (j+1)).length=lW p l (j+1);rw[el,ek,iA _ _ (by simp;omega),List.take_set_of_le (Nat.le_refl _),h3];simp
   ·simp only;rw[List.drop_set_of_lt (by omega)];exact hdr
 ·right;have hj:j=l.length:=by omega
  obtain⟨n',hh⟩:=LC (M:=M) (f:=f) (cs:=cs) k l.length (lW p l j).length j (D.map af) c n;exact⟨_,hh,by simp,⟨j,D,n'⟩,rfl,hj,⟨h1,h2,h3,h4,h5⟩⟩
theorem aF.al(h:aF.k M){f:Nat}{cs:List T}{p:bA→Bool}(hf:∀m,run M f [.a (af m),.c (.vp cs 0)] []=some (.c (.bool (p m)),[]))(l:List bA)(hl:l.length≤1048576):
  run M 478 [.c (.row 0 0 0 l.length),.c (.fn f [.vp cs 0])] [sV l []]=
   some (.c (.row 0 0 0 (l.filter fun m=> !p m).length),[(0,⟨0,7,true,false,(l.filter fun m=> !p m).map af++List.replicate (l.length-(l.filter fun m=> !p m).length) tf⟩)]):=by
 obtain⟨h0,k1⟩:=h;have h1:=aB.gen k1 hf l hl;refine aA (b:=aF.m) h0 ⟨l.length+1, ?_⟩;have e0:(l.map af).length=l.length:=by simp
 cases hq:eJ (ub p l) l.length with
 |none=>
  have hall:(l.filter fun m=> !p m)=l:=List.filter_eq_self.2 fun m hm=>by
   obtain⟨j,hj,rfl⟩:=bW hm;have:=mg hq j hj;rw[j2 p l j hj] at this;simp[this]
  rw[hall,Nat.sub_self,List.replicate_zero,dp];rw[hq] at h1;simp only[sV,boxes,dO,dp] at h1 ⊢;generalize l.map af=r0 at*;simp (maxSteps:=9^9) [ba,aF.m,aF.b,ab,h1,e0,aa]
 |some k=>
  rw[hq] at h1;obtain⟨hk1,hk2,hk3⟩:=mf hq;rw[j2 p l k hk1] at hk2;have ek:lW p l k=l.take k:=by
   refine List.filter_eq_self.2 fun m hm=> ?_
   obtain⟨j,hj,rfl⟩:=bW hm;have hj':j<k:=by simp at hj;omega
   have:=hk3 j hj';rw[j2 p l j (by omega)] at this;simp[this]
  have ek1:lW p l (k+1)=l.take k:=by
   simp only[lW,iA l k hk1,List.filter_append] at ek ⊢;rw[ek];simp[hk2]
  have el:(lW p l (k+1)).length=k:=by rw[ek1];simp;omega
  obtain⟨r,hr,⟨⟨j,D,n'⟩,rfl,hj,hI⟩⟩:=kW (f:=ct (run M) (l.length+1) aF.l0) (LD f cs p l) (Nn p l) (fun s=>l.length-s.j)
   (fun r=>∃s',r=(.exit 0,OQ f cs p l s')∧s'.j=l.length∧Nn p l s') (fun s hs=>JP hf (l.length+1) l hl s hs) (l.length+1) ⟨k+1,l,2000160⟩
   ⟨by simp only;omega,rfl,by show l.take (lW p l (k+1)).length=lW p l (k+1);rw[el,ek1],rfl,by simp only[el];omega⟩ (by simp only;omega)
  obtain⟨_,hlen,htk,_,hlt⟩:=hI;simp only at hj hlen htk hlt;subst hj;have ef:lW p l l.length=l.filter fun m=> !p m:=by simp[lW]
  rw[ef] at htk hlt;simp only[LD,OQ,el,ef] at hr;have e1:(D.map af).length=l.length:=by simpa using hlen
  have e2:(D.map af).take (l.filter fun m=> !p m).length=(l.filter fun m=> !p m).map af:=by rw[←List.map_take,htk]
  have e3:((l.filter fun m=> !p m).map af).length=(l.filter fun m=> !p m).length:=by simp
  have e5:=cA (i:=k) (by omega);have e6:((k+1:Nat):Int)=(k:Int)+1:=by omega
  have e7:¬(k:Int)= -1:=by omega
  rw[e6] at hr;simp only[sV,boxes,dO,dp] at h1 ⊢;generalize (l.filter fun m=> !p m).map af=rf at*;generalize (l.filter fun m=> !p m).length=nf at*;generalize D.map af=rd at*;generalize l.map af=r0 at*;clear hk2 hk3 ek ek1 el hq ef;generalize l.length=N at*;have e8:nf≤N:=by omega
  have e9:¬N=nf:=by omega
  have e10:¬nf=N:=by omega
  have e11:nf+(N-nf)=N:=by omega
  have e12:¬N-nf=0:=by omega
  have e13:List.drop N rd=[]:=eO (by omega);simp (maxSteps:=9^9) [ba,aF.m,aF.b,ab,h1,hr,e0,e1,e2,e3,e5,e7,e8,e10,e11,e12,e13,aa]
def k_(s:List UInt8)(g:Int):List UInt8:=s.take 6++[120]++if 0<g then(dec g).drop ((dec g).length-5) else []
theorem cM.al(h:cM.k M)(s:List UInt8)(g:Int)(hs:s.length≤1048576)(hg:g≤9223372036854775807):run M 484 [.c (S s),.c (I g)] []=some (.c (S (k_ s g)),[]):=by
 obtain⟨h0,k1⟩:=h;refine aA (b:=cM.m) h0 ⟨0, ?_⟩;unfold k_;have e0:∀x y:Int,x≤y→(if y<x then y else x)=x:=fun x y h=>by rw[if_neg (by omega)]
 have a1:kQ .add (bs s) ⟨#[120]⟩=some (S (s++[120])):=bL s [120] (by simp;omega);have a2:kQ .add (bs (s.take 6)) ⟨#[120]⟩=some (S (s.take 6++[120])):=bL (s.take 6) [120] (by simp;omega);by_cases c:0<g
 ·have h1:=dx.al k1 g (by omega) hg;have hl:=DX (n:=g) (by omega) hg;rw[if_pos c];generalize dec g=d at*;have a3:∀k,kQ .add (bs (s++[120])) (bs (d.drop k))=some (S (s++[120]++d.drop k)):=fun k=>bL (s++[120]) (d.drop k) (by simp;omega)
  have a4:∀k,kQ .add (bs (s.take 6++[120])) (bs (d.drop k))=some (S (s.take 6++[120]++d.drop k)):=fun k=>bL (s.take 6++[120]) (d.drop k) (by simp;omega)
  have a5:=a3 0;have a6:=a4 0;rw[List.drop_zero] at a5 a6;have ed:d.take d.length=d:=List.take_length;have e1:IntKind.i64.wrap ((d.length:Int)-5)=(d.length:Int)-5:=wrap_i64 (by omega) (by omega);by_cases c1:s.length<6
  ·have c1':(s.length:Int)<6:=by omega
   have t1:s.take 6=s:=aa (by omega);by_cases c2:d.length≤5
   ·have c2':¬(5:Int)<(d.length:Int):=by omega
    have e2:d.length-5=0:=by omega
    simp (maxSteps:=9^9) [ba,cM.m,cM.b,ab,h1,c,c1',c2',t1,e1,e2,max2,min2,a1,a5,ed]
   ·have c2':(5:Int)<(d.length:Int):=by omega
    have e3:(0:Int)≤(d.length:Int)-5:=by omega
    have e4:d.length-5≤d.length:=by omega
    have e7:(5:Int)≤(d.length:Int):=by omega
    have e2:((d.length:Int)-5).toNat=d.length-5:=by omega
    simp (maxSteps:=9^9) [ba,cM.m,cM.b,ab,h1,c,c1',c2',t1,e1,e2,e4,e7,max2,min2,a1,a3,ed]
  ·have c1':¬(s.length:Int)<6:=by omega
   have c6:6≤s.length:=by omega
   by_cases c2:d.length≤5
   ·have c2':¬(5:Int)<(d.length:Int):=by omega
    have e2:d.length-5=0:=by omega
    simp (maxSteps:=9^9) [ba,cM.m,cM.b,ab,h1,c,c1',c6,c2',e1,e2,max2,min2,a2,a6,ed]
   ·have c2':(5:Int)<(d.length:Int):=by omega
    have e3:(0:Int)≤(d.length:Int)-5:=by omega
    have e4:d.length-5≤d.length:=by omega
    have e7:(5:Int)≤(d.length:Int):=by omega
    have e2:((d.length:Int)-5).toNat=d.length-5:=by omega
    simp (maxSteps:=9^9) [ba,cM.m,cM.b,ab,h1,c,c1',c6,c2',e1,e2,e4,e7,max2,min2,a2,a4,ed]
 ·rw[if_neg c];by_cases c1:s.length<6
  ·have c1':(s.length:Int)<6:=by omega
   have t1:s.take 6=s:=aa (by omega);simp (maxSteps:=9^9) [ba,cM.m,cM.b,ab,c,c1',t1,min2,a1]
  ·have c1':¬(s.length:Int)<6:=by omega
   have c6:6≤s.length:=by omega
   simp (maxSteps:=9^9) [ba,cM.m,cM.b,ab,c,c1',min2,a2,c6]
theorem cE.al(h:cE.k M)(s:List UInt8)(g:Int)(hs:s.length≤1048576)(hg:g≤9223372036854775807):run M 475 [.c (S s),.c (I g)] []=some (.c (S (k_ s g)),[]):=by
 obtain⟨h0,k1⟩:=h;refine aA (b:=cE.m) h0 ⟨0, ?_⟩;unfold k_;obtain⟨t,ht,hl6,hcase⟩:∃t,t=s.take 6∧t.length≤6∧((6<s.length)∨(¬6<s.length∧t=s)):=⟨s.take 6,rfl,by simp;omega,by
  by_cases c:6<s.length
  ·exact .inl c
  ·exact .inr ⟨c,aa (by omega)⟩⟩
 rw[←ht];have a1:kQ .add (bs t) ⟨#[120]⟩=some (S (t++[120])):=bL t [120] (by simp;omega);have a0:kQ .add (bs (t++[120])) ⟨#[]⟩=some (S (t++[120])):=by
  have:=bL (t++[120]) [] (by simp;omega);rw[dp] at this;exact this
 by_cases c:0<g
 ·have h1:=db.al k1 g (by omega) hg;have hl:=DX (n:=g) (by omega) hg;rw[if_pos c];generalize dec g=d at*;have e1:IntKind.i64.wrap ((d.length:Int)-5)=(d.length:Int)-5:=wrap_i64 (by omega) (by omega);have a3:∀k,kQ .add (bs (t++[120])) (bs (d.drop k))=some (S (t++[120]++d.drop k)):=fun k=>bL (t++[120]) (d.drop k) (by simp;omega)
  have a5:=a3 0;rw[List.drop_zero] at a5;have ed:d.take d.length=d:=List.take_length;rcases hcase with q|⟨q,q2⟩
  ·have q1:6≤s.length:=by omega
   have q3:(6:Int)<(s.length:Int):=by omega
   by_cases c2:d.length≤5
   ·have c2':¬(5:Int)<(d.length:Int):=by omega
    have c3:¬5<d.length:=by omega
    have e2:d.length-5=0:=by omega
    simp (maxSteps:=9^9) [ba,cE.m,cE.b,ab,h1,c,q1,q3,←ht,c2',e2,a1,a5]
   ·have c2':(5:Int)<(d.length:Int):=by omega
    have c3:5<d.length:=by omega
    have e2:((d.length:Int)-5).toNat=d.length-5:=by omega
    have e4:d.length-5≤d.length:=by omega
    have e7:(5:Int)≤(d.length:Int):=by omega
    simp (maxSteps:=9^9) [ba,cE.m,cE.b,ab,h1,c,q1,q3,←ht,c2',e1,e2,e4,e7,a1,a3,ed]
  ·subst q2;have q3:¬(6:Int)<(t.length:Int):=by omega
   by_cases c2:d.length≤5
   ·have c2':¬(5:Int)<(d.length:Int):=by omega
    have c3:¬5<d.length:=by omega
    have e2:d.length-5=0:=by omega
    simp (maxSteps:=9^9) [ba,cE.m,cE.b,ab,h1,c,q3,c2',e2,a1,a5]
   ·have c2':(5:Int)<(d.length:Int):=by omega
    have c3:5<d.length:=by omega
    have e2:((d.length:Int)-5).toNat=d.length-5:=by omega
    have e4:d.length-5≤d.length:=by omega
    have e7:(5:Int)≤(d.length:Int):=by omega
    simp (maxSteps:=9^9) [ba,cE.m,cE.b,ab,h1,c,q3,c2',e1,e2,e4,e7,a1,a3,ed]
 ·rw[if_neg c];rcases hcase with q|⟨q,q2⟩
  ·have q1:6≤s.length:=by omega
   have q3:(6:Int)<(s.length:Int):=by omega
   simp (maxSteps:=9^9) [ba,cE.m,cE.b,ab,c,q1,q3,←ht,a1,a0]
  ·subst q2;have q3:¬(6:Int)<(t.length:Int):=by omega
   simp (maxSteps:=9^9) [ba,cE.m,cE.b,ab,c,q3,a1,a0]
def mc(l:List bA)(g:Int):Option Nat:=eJ (ub (fun b:bA=>decide (b.gid=g)) l) l.length
def kZ(l:List bA)(g:Int):Option bA:=l.find? fun b=>decide (b.gid=g)
theorem jk{l:List bA}{g:Int}{k:Nat}(h:mc l g=some k):∃hk:k<l.length,kZ l g=some l[k]:=by
 obtain⟨h1,h2,h3⟩:=mf h;refine⟨h1, ?_⟩;unfold kZ;rw[List.find?_eq_some_iff_getElem];rw[j2 _ _ _ h1] at h2;refine⟨h2,k,h1,rfl,fun j hj=> ?_⟩;have:=h3 j hj;rw[j2 _ _ _ (by omega)] at this;simp only[this,Bool.not_false]
theorem px{l:List bA}{g:Int}(h:mc l g=none):kZ l g=none:=by
 unfold kZ;rw[List.find?_eq_none];intro b hb;obtain⟨j,hj,rfl⟩:=bW hb;have:=mg h j hj;rw[j2 _ _ _ hj] at this;simp only[this];decide
theorem eX.al(h:eX.k M)(b:bA)(g:Int):run M 477 [.a (af b),.c (.vp [I g] 0)] []=some (.c (.bool (decide (b.gid=g))),[]):=by
 refine aA (b:=eX.m) h ⟨0, ?_⟩;simp (maxSteps:=9^9) [ba,eX.m,eX.b,ab,af]
theorem eY.al(h:eY.k M)(l:List bA)(g:Int)(hl:l.length≤1048576):run M 476 [.c (boxes l),.c (I g)] []=some (.c (I (dO (mc l g))),[]):=by
 have h1:=aB.gen h.2.1 (fun b=>eX.al h.2.2 b g) l hl;refine aA (b:=eY.m) h.1 ⟨0, ?_⟩;unfold mc;simp only[boxes] at h1 ⊢;generalize l.map af=r at*;simp (maxSteps:=9^9) [ba,eY.m,eY.b,ab,h1]
theorem fC.al(h:fC.k M)(b:bA)(G:List Int)(hG:G.length≤4194304):run M 479 [.a (af b),.c (.vp [ints G] 0)] []=some (.c (.bool (decide (b.gid∈G))),[]):=by
 have h1:=aI.al h.2 G b.gid (by omega);refine aA (b:=fC.m) h.1 ⟨0, ?_⟩;simp only[ints] at h1 ⊢;generalize az G=g at*;simp (maxSteps:=9^9) [ba,fC.m,fC.b,ab,h1,af]
theorem fA.al(h:fA.k M)(y x:bA):run M 483 [.a (af y),.c (.vp (af x) 0)] []=some (.c (.bool (decide (y.name=x.name))),[]):=by
 refine aA (b:=fA.m) h ⟨0, ?_⟩;simp (maxSteps:=9^9) [ba,fA.m,fA.b,ab,af]
theorem bh.al(h:bh.k M){f:Nat}{cs:List T}{p:bA→Bool}(hf:∀m,run M f [.a (af m),.c (.vp cs 0)] []=some (.c (.bool (p m)),[]))(l:List bA)(hl:l.length≤1048576):
  run M 482 [.c (boxes l),.c (.fn f [.vp cs 0])] []=some (.c (.bool (l.any p)),[]):=by
 have h1:=aB.gen h.2 hf l hl;have e:(decide ((0:Int)≤dO (eJ (ub p l) l.length)))=l.any p:=by
  cases q:eJ (ub p l) l.length with
  |none=>
   have hn:=mg q;have:l.any p=false:=by
    rw[List.any_eq_false];intro b hb;obtain⟨j,hj,rfl⟩:=bW hb;have:=hn j hj;rw[j2 _ _ _ hj] at this;simp[this]
   rw[this];decide
  |some k=>
   obtain⟨h1,h2,_⟩:=mf q;rw[j2 _ _ _ h1] at h2;have:l.any p=true:=List.any_eq_true.2 ⟨_,aq h1,h2⟩;rw[this];exact decide_eq_true (Int.natCast_nonneg k)
 refine aA (b:=bh.m) h.1 ⟨0, ?_⟩;rw[←e];simp only[boxes] at h1 ⊢;generalize l.map af=r at*;simp (maxSteps:=9^9) [ba,bh.m,bh.b,ab,h1]
def L6(l:List bA)(g:Int)(i:Nat)(x:Nat):St:={t:=[(0,.c (boxes l)),(1,.c (I g)),(5,.c (I i))],o:=[],n:=x}
theorem gk.al(h:gk.k M)(l:List bA)(g:Int)(hl:l.length≤1048576):run M 474 [.c (boxes l),.c (I g)] []=some (.c (I (dO (mc l g))),[]):=by
 refine aA (b:=gk.m) h ⟨l.length+1, ?_⟩;obtain⟨g',hr⟩:=m_ (f:=ct (run M) (l.length+1) gk.l0) l.length (ub (fun b:bA=>decide (b.gid=g)) l) (L6 l g) j6 pL
  (fun i hi x c=>by
   rw[j2 _ _ _ hi] at c;simp only[decide_eq_false_iff_not] at c;have e5:=cA (i:=i) (by omega);simp[L6,gk.l0,hi,c,af,e5])
  (fun i hi x c=>by
   rw[j2 _ _ _ hi] at c;simp only[decide_eq_true_eq] at c;simp[L6,gk.l0,hi,c,af,j6];exact⟨⟨[],[],_⟩,rfl⟩)
  (fun x=>by simp[L6,gk.l0,j6])
 unfold mc;cases hm:eJ (ub (fun b:bA=>decide (b.gid=g)) l) l.length with
 |none=>
  simp[L6,hm,j6] at hr;simp[ba,gk.m,gk.b,ab,hr,dO]
 |some k=>
  simp[L6,hm,j6] at hr;simp[ba,gk.m,gk.b,ab,hr,dO]
abbrev iG(R:List (List T))(i:Nat)(h:Int):Nat×Ob:=(0,⟨0,3,true,true,[[.sl false 1 R,I i,I h]]⟩)
def Bytes(R:List (List T)):Prop:=R.length≤1048576∧∀(i:Nat) (r:List T),R[i]? =some r→∃n:Int,r=[.int .u8 n]
theorem D7(x:Int):∃n:Nat,n<256∧uG .i64 x 255=(n:Int):=by
 rw[wQ];refine⟨(x%((2^IntKind.i64.bits:Nat):Int)).toNat&&&255, ?_, ?_⟩
 ·have:(x%((2^IntKind.i64.bits:Nat):Int)).toNat&&&255≤255:=Nat.and_le_right;omega
 ·have h:(x%((2^IntKind.i64.bits:Nat):Int)).toNat&&&255≤255:=Nat.and_le_right;have e:((255:Int)%((2^IntKind.i64.bits:Nat):Int)).toNat=255:=by decide
  rw[e];exact wrap_i64 (by omega) (by omega)
theorem fk.al(h:fk.k M){R:List (List T)}(hR:Bytes R)(i:Nat)(q:Int)(hi:i≤R.length):
  ∃(x i':Nat) (q':Int),x<256∧i'≤R.length∧run M 131 [.c (.ptr 0 0 0 0)] [iG R i q]=some (.c (I x),[iG R i' q']):=by
 obtain⟨hl,hb⟩:=hR;obtain⟨q1,hq1⟩:∃q1,IntKind.i64.wrap (IntKind.i64.wrap (q*6364136223846793005)+1442695040888963407)=q1:=⟨_,rfl⟩
 obtain⟨x,hx,e1⟩:=D7 (AM .i64 (q1.fdiv ((2:Int)^min 33 IntKind.i64.bits)) (q1.fdiv ((2:Int)^min 45 IntKind.i64.bits)));by_cases hlt:i<R.length
 ·obtain⟨n,hn⟩:=hb i R[i] (cj hlt);obtain⟨y,hy,e2⟩:=D7 (IntKind.i64.wrap (x+IntKind.i64.wrap n));refine⟨y,i+1,q1,hy,by omega, ?_⟩;refine aA (b:=fk.m) h ⟨0, ?_⟩;have e3:=cA (i:=i) (by omega);simp (maxSteps:=9^9) [ba,fk.m,fk.b,ab,setAt,hq1,e1,e2,e3,hlt,hn]
 ·refine⟨x,i,q1,hx,hi, ?_⟩;refine aA (b:=fk.m) h ⟨0, ?_⟩;simp (maxSteps:=9^9) [ba,fk.m,fk.b,ab,setAt,hq1,e1,hlt]
theorem tj(x n:Nat)(hn:0<n):∃y:Nat,y<n∧((x:Int).tmod (n:Int))=(y:Int):=⟨x%n,Nat.mod_lt _ hn,by rw[Int.tmod_eq_emod_of_nonneg (by omega)];rfl⟩
theorem bu.al(h:bu.k M){R:List (List T)}(hR:Bytes R)(i:Nat)(q:Int)(hi:i≤R.length)(n:Nat)(hn:0<n)(hn2:n≤1000000000):
  ∃(x i':Nat) (q':Int),x<n∧i'≤R.length∧run M 125 [.c (.ptr 0 0 0 0),.c (I n)] [iG R i q]=some (.c (I x),[iG R i' q']):=by
 obtain⟨h0,k1⟩:=h;have n0:¬(n:Int)≤0:=by omega
 have n1:¬n=0:=by omega
 obtain⟨x1,i1,q1,hx1,hi1,h1⟩:=fk.al k1 hR i q hi;by_cases hs:n≤256
 ·have hs2:(n:Int)≤256:=by omega
  obtain⟨y,hy,e⟩:=tj x1 n hn;refine⟨y,i1,q1,hy,hi1, ?_⟩;refine aA (b:=bu.m) h0 ⟨0, ?_⟩;simp (maxSteps:=9^9) [ba,bu.m,bu.b,ab,h1,n1,hs2,e]
 ·have hs2:¬(n:Int)≤256:=by omega
  obtain⟨x2,i2,q2,hx2,hi2,h2⟩:=fk.al k1 hR i1 q1 hi1;obtain⟨x3,i3,q3,hx3,hi3,h3⟩:=fk.al k1 hR i2 q2 hi2;obtain⟨x4,i4,q4,hx4,hi4,h4⟩:=fk.al k1 hR i3 q3 hi3;have w1:IntKind.i64.wrap ((x1:Int)*16777216)=((x1*16777216:Nat):Int):=wrap_i64 (by omega) (by omega);have w2:IntKind.i64.wrap ((x2:Int)*65536)=((x2*65536:Nat):Int):=wrap_i64 (by omega) (by omega);have w3:IntKind.i64.wrap ((x3:Int)*256)=((x3*256:Nat):Int):=wrap_i64 (by omega) (by omega);obtain⟨y1,hy1⟩:∃y1,x1*16777216=y1:=⟨_,rfl⟩
  obtain⟨y2,hy2⟩:∃y2,x2*65536=y2:=⟨_,rfl⟩
  obtain⟨y3,hy3⟩:∃y3,x3*256=y3:=⟨_,rfl⟩
  rw[hy1] at w1;rw[hy2] at w2;rw[hy3] at w3;have w4:IntKind.i64.wrap ((y1:Int)+y2)=((y1+y2:Nat):Int):=wrap_i64 (by omega) (by omega);obtain⟨z1,hz1⟩:∃z1,y1+y2=z1:=⟨_,rfl⟩
  rw[hz1] at w4;have w5:IntKind.i64.wrap ((z1:Int)+y3)=((z1+y3:Nat):Int):=wrap_i64 (by omega) (by omega);obtain⟨z2,hz2⟩:∃z2,z1+y3=z2:=⟨_,rfl⟩
  rw[hz2] at w5;have w6:IntKind.i64.wrap ((z2:Int)+x4)=((z2+x4:Nat):Int):=wrap_i64 (by omega) (by omega);obtain⟨z3,hz3⟩:∃z3,z2+x4=z3:=⟨_,rfl⟩
  rw[hz3] at w6;obtain⟨y,hy,e⟩:=tj z3 n hn;refine⟨y,i4,q4,hy,hi4, ?_⟩;refine aA (b:=bu.m) h0 ⟨0, ?_⟩;simp (maxSteps:=9^9) [ba,bu.m,bu.b,ab,h1,h2,h3,h4,w1,w2,w3,w4,w5,w6,n1,hs2,e]
theorem eG.al(h:eG.k M){R:List (List T)}(hR:Bytes R)(i:Nat)(q:Int)(hi:i≤R.length)(ss:List (List UInt8))(h0:0<ss.length)(hn:ss.length≤256):
  ∃(s:List UInt8) (i':Nat) (q':Int),s∈ss∧i'≤R.length∧run M 185 [.c (.ptr 0 0 0 0),.c (.sl false 1 (ss.map fun s=>[S s]))] [iG R i q]=some (.c (S s),[iG R i' q']):=by
 obtain⟨hm,k1⟩:=h;obtain⟨x,i1,q1,hx,hi1,h1⟩:=bu.al k1 hR i q hi ss.length h0 (by omega);refine⟨ss[x],i1,q1,aq hx,hi1, ?_⟩;refine aA (b:=eG.m) hm ⟨0, ?_⟩;simp (maxSteps:=9^9) [ba,eG.m,eG.b,ab,h1,hx]
def Ce:List (List UInt8):=[[104,101,108,108,111],[104,105,10],[],[116,101,120,116,32,111,102,32,105,116],[0,255],[97,32,98]]
theorem gF.al(h:gF.k M){R:List (List T)}(hR:Bytes R)(i:Nat)(q:Int)(hi:i≤R.length):
  ∃(s:List UInt8) (i':Nat) (q':Int),s.length≤60∧i'≤R.length∧run M 174 [.c (.ptr 0 0 0 0)] [iG R i q]=some (.c (S s),[iG R i' q']):=by
 obtain⟨hm,k1⟩:=h;obtain⟨s,i1,q1,hs,hi1,h1⟩:=eG.al k1 hR i q hi Ce (by decide) (by decide);refine⟨s,i1,q1, ?_,hi1, ?_⟩
 ·have:∀s∈Ce,s.length≤60:=by decide
  exact this s hs
 ·refine aA (b:=gF.m) hm ⟨0, ?_⟩;simp only[Ce,bq,bF] at h1 ⊢;simp (maxSteps:=9^9) [ba,gF.m,gF.b,ab,h1]
def C2(R:List (List T))(i:Nat):Int:=match R[i]? with
 |some [.int _ n]=>IntKind.i64.wrap n
 |_=>0
def Ju(R:List (List T)):Nat→Int
 |0=>77201+R.length
 |i+1=>uG .i64 (IntKind.i64.wrap (IntKind.i64.wrap (IntKind.i64.wrap (Ju R i*131)+C2 R i)+7)) 1073741823
def DI(R:List (List T)):Nat:=min R.length 4000
def NL(R:List (List T))(i:Nat)(x:Nat):St:={t:=[(0,.c (.sl false 1 R)),(3,.c (I (Ju R i))),(4,.c (I i))],o:=[],n:=x}
def Oy(R:List (List T))(x:Nat):St:={t:=[(0,.c (.sl false 1 R)),(3,.c (I (Ju R (DI R)))),(4,.c (I (DI R))),(15,.c (.bool false))],o:=[],n:=x}
theorem fP.al(h:fP.k M){R:List (List T)}(hR:Bytes R):
  ∃q:Int,run M 124 [.c (.sl false 1 R)] []=some (.c (.vp [.sl false 1 R,I 0,I q] 0),[]):=by
 refine⟨Ju R (DI R),aA (b:=fP.m) h ⟨DI R+1, ?_⟩⟩;have hl:=hR.1;obtain⟨g,hr⟩:=ky (f:=ct (run M) (DI R+1) fP.l0) (DI R) (NL R) 0 (Oy R)
  (fun i hi x=>by
   have h1:i<R.length:=by unfold DI at hi;omega
   have h2:i<4000:=by unfold DI at hi;omega
   have h3:(i:Int)<4000:=by omega
   obtain⟨n,hn⟩:=hR.2 i R[i] (cj h1);have hb:C2 R i=IntKind.i64.wrap n:=by simp[C2,h1,hn]
   have e3:=cA (i:=i) (by omega);simp only[NL,Ju,hb];generalize Ju R i=q;simp (maxSteps:=9^9) [fP.l0,h1,h3,hn,e3])
  (fun x=>by
   simp only[NL,Oy];generalize Ju R (DI R)=q;by_cases c:R.length<4000
   ·have e:DI R=R.length:=by unfold DI;omega
    rw[e];simp (maxSteps:=9^9) [fP.l0]
   ·have e:DI R=4000:=by unfold DI;omega
    rw[e];simp only[bO];by_cases c2:4000<R.length
    ·have c3:(4000:Int)<(R.length:Int):=by omega
     simp (maxSteps:=9^9) [fP.l0,c3]
    ·have c3:¬(4000:Int)<(R.length:Int):=by omega
     simp (maxSteps:=9^9) [fP.l0,c3])
 simp only[NL,Oy,Ju] at hr;generalize Ju R (DI R)=q at*;simp at hr;have e:IntKind.i64.wrap (77201+(R.length:Int))=77201+(R.length:Int):=wrap_i64 (by omega) (by omega);simp (maxSteps:=9^9) [ba,fP.m,fP.b,ab,setAt,hr,e]
structure LM where
 i:Nat
 rows:List (List T)
 v:Nat
 vc:Nat
 ic:Nat
 q:Int
 n:Nat
theorem LM.ex{p:LM→Prop}:(∃s,p s)↔∃i rows v vc ic q n,p ⟨i,rows,v,vc,ic,q,n⟩:=⟨fun⟨⟨i,rows,v,vc,ic,q,n⟩,h⟩=>⟨i,rows,v,vc,ic,q,n,h⟩,fun⟨i,rows,v,vc,ic,q,n,h⟩=>⟨⟨i,rows,v,vc,ic,q,n⟩,h⟩⟩
def MC(R:List (List T))(s:LM):List (Nat×Ob):=[(10,⟨s.v,1,true,false,s.rows⟩),(10700,⟨s.vc,3,true,true,[[.sl false 1 R,I s.ic,I s.q]]⟩)]
def IE(R:List (List T))(s:LM):St:={t:=[(3,.c (.ptr 10700 s.vc 0 0)),(4,.c (.row 10 s.v 0 s.i)),(5,.c (I s.i))],o:=MC R s,n:=s.n}
def MD(R:List (List T))(s:LM):St:={t:=[(3,.c (.ptr 10700 s.vc 0 0)),(4,.c (.row 10 s.v 0 s.i)),(5,.c (I s.i)),(12,.c (.bool false))],o:=MC R s,n:=s.n}
structure Nh (R:List (List T)) (s:LM):Prop where
 i:s.i≤12
 l:s.rows.length=s.i
 r:∀r∈s.rows,∃x:Nat,x<10000∧r=[I x]
 c:s.ic≤R.length
theorem ID(hb:bu.k M){R:List (List T)}(hR:Bytes R)(k:Nat)(s:LM)(hs:Nh R s):
  (∃s',ct (run M) k cV.l0 (IE R s)=some (.normal,IE R s')∧Nh R s'∧12-s'.i<12-s.i)∨
   (∃r,ct (run M) k cV.l0 (IE R s)=some r∧r.1≠.normal∧∃s',r=(.exit 0,MD R s')∧s'.i=12∧Nh R s'):=by
 obtain⟨i,rows,v,vc,ic,q,n⟩:=s;obtain⟨hi,hl,hr,hc⟩:=hs;simp only at hi hl hr hc;obtain⟨x,ic',q',hx,hic,h1⟩:=bu.al hb hR ic q hc 10000 (by omega) (by omega);simp only[bO] at h1;by_cases hlt:i<12
 ·left;have hlt2:(i:Int)<12:=by omega
  have e3:=cA (i:=i) (by omega);have e4:rows.take i=rows:=aa (by omega);have e5:i+1≤4294967296:=by omega
  have e6:i≤rows.length:=by omega
  have hh:∃v' n',ct (run M) k cV.l0 (IE R ⟨i,rows,v,vc,ic,q,n⟩)=some (.normal,IE R ⟨i+1,rows++[[I x]],v',vc,ic',q',n'⟩):=by
   simp only[IE,MC];simp (maxSteps:=9^9) [cV.l0,h1,hl,hlt2,e3,e4,e5]
  obtain⟨v',n',hh⟩:=hh;refine⟨_,hh,⟨by simp only;omega,by simp[hl],fun r hr'=> ?_,hic⟩,by simp only;omega⟩;rcases List.mem_append.1 hr' with h|h
  ·exact hr r h
  ·simp only[gz] at h;exact⟨x,hx,h⟩
 ·right;have hlt2:¬(i:Int)<12:=by omega
  refine⟨(.exit 0,MD R ⟨i,rows,v,vc,ic,q,n+32⟩), ?_,by simp,⟨i,rows,v,vc,ic,q,n+32⟩,rfl,by simp only;omega,⟨hi,hl,hr,hc⟩⟩;simp only[IE,MD,MC];simp (maxSteps:=9^9) [cV.l0,hlt2]
theorem cV.al(h:cV.k M){R:List (List T)}(hR:Bytes R):
  ∃rows:List (List T),rows.length=12∧(∀r∈rows,∃x:Nat,x<10000∧r=[I x])∧run M 40 [.c (.sl false 1 R)] []=some (.c (.sl true 1 rows),[]):=by
 obtain⟨h0,k1,k2,k3⟩:=h;obtain⟨q0,h1⟩:=fP.al k1 hR;obtain⟨x,ic,q,hx,hic,h2⟩:=fk.al k3 hR 0 q0 (Nat.zero_le _);obtain⟨r,hr,⟨⟨i,rows,v,vc,ic',q',n⟩,rfl,hi,hI⟩⟩:=kW (f:=ct (run M) 13 cV.l0) (IE R) (Nh R) (fun s=>12-s.i) (fun r=>∃s',r=(.exit 0,MD R s')∧s'.i=12∧Nh R s')
  (fun s hs=>ID k2 hR 13 s hs) 13 ⟨0,[],2000096,2000032,ic,q,2000144⟩ ⟨by simp,by simp,by simp,hic⟩ (by simp)
 obtain⟨_,hl,hr',_⟩:=hI;simp only at hi hl hr';refine⟨rows,by omega,hr',aA (b:=cV.m) h0 ⟨13, ?_⟩⟩;have e:rows.take i=rows:=aa (by omega);have e2:i≤rows.length:=by omega
 simp only[IE,MD,MC] at hr;simp at hr;have e0:((0:Nat):Int)=0:=rfl;simp only[iG,e0] at h2;simp (maxSteps:=9^9) [ba,cV.m,cV.b,ab,hr,h1,h2,e,e2]
theorem cQ.al(h:cQ.k M)(l:List nE)(n t w:Int)(hl:l.length≤1048576):run M 182 [.c (jM l),.c (I n),.a [I t,I w]] []=some (.c (.sl true 3 ((mU l n t w).map aS)),[]):=by
 obtain⟨h0,k1,k2,k3,k4⟩:=h;have h1:=fX.al k1 n;have h2:=dL.al k2 l hl;have h3:=gP.al k3 l hl;refine aA (b:=cQ.m) h0 ⟨4, ?_⟩;have e7:(l.map aS).length=l.length:=by simp
 have e8:(l.map aS).all (fun r=>r.all T.scalar)=true:=by simp[T.scalar]
 unfold mU;simp only[jM] at*;cases c1:lQ l
 ·simp only[au,false_and,if_false];generalize l.map aS=r at*;simp (maxSteps:=9^9) [ba,cQ.m,cQ.b,ab,h2,h3,c1,e7,e8,aa]
 cases c2:j_ 0 n 7
 ·simp only[au,and_false,if_false];generalize l.map aS=r at*;simp (maxSteps:=9^9) [ba,cQ.m,cQ.b,ab,h1,h2,h3,c1,c2,e7,e8,aa]
 have hl3:=(pb c1).1;obtain⟨g,hr⟩:=ky (f:=ct (run M) 4 cQ.l0) l.length (LY l n t w) 0 (Og l n t w)
  (fun i hi x=>cQ.KF k4 l n t w 4 i hl3 hi x)
  (fun x=>by
   obtain⟨v,u,x⟩:=x;simp only[LY,Og,aE];generalize (kD l n t w l.length).map aS=rr;simp (maxSteps:=9^9) [cQ.l0])
 have e9:((kD l n t w l.length).map aS).length=l.length:=by simp[sx]
 simp only[true_and,if_true];rw[←zb];simp only[LY,Og,xi] at hr;generalize (kD l n t w l.length).map aS=rr at*;generalize l.map aS=r at*;simp[hl3] at hr;simp (maxSteps:=9^9) [ba,cQ.m,cQ.b,ab,hr,h1,h2,h3,c1,c2,e7,e8,e9,hl3,aa]
def LX(l:List nE)(n t w:Int)(i:Nat)(x:Nat×Nat×Nat):St:={t:=[(1,.c (I n)),(5,.c (.ptr 5 x.1 0 0)),(7,.c (.row 11100 x.2.1 0 l.length)),(8,.c (I i))],o:=[(5,⟨x.1,2,true,true,[[I t,I w]]⟩),(11100,⟨x.2.1,3,true,false,(kD l n t w i).map aS⟩)],n:=x.2.2}
def Of(l:List nE)(n t w:Int)(x:Nat×Nat×Nat):St:={t:=[(1,.c (I n)),(5,.c (.ptr 5 x.1 0 0)),(7,.c (.row 11100 x.2.1 0 l.length)),(8,.c (I l.length)),(24,.c (.bool false))],o:=[(5,⟨x.1,2,true,true,[[I t,I w]]⟩),(11100,⟨x.2.1,3,true,false,(kD l n t w l.length).map aS⟩)],n:=x.2.2}
theorem cP.KF(k:jm.k M)(l:List nE)(n t w:Int)(K i:Nat)(hn:0≤n)(hl:l.length=3)(hi:i<l.length)(x:Nat×Nat×Nat):
  ∃y,ct (run M) K cP.l0 (LX l n t w i x)=some (.normal,LX l n t w (i+1) y):=by
 obtain⟨v,u,x⟩:=x;have e5:=cA (i:=i) (by omega);have h1:=jm.al k l[i] (nX n i) t w;have hlen:((kD l n t w i).map aS).length=l.length:=by simp[sx]
 have hi2:i<((kD l n t w i).map aS).length:=by omega
 have hat:((kD l n t w i).map aS)[i]'hi2=aS l[i]:=by rw[f_,A0]
 have hset:(kD l n t w (i+1)).map aS=((kD l n t w i).map aS).set i (aS (pP n t w i l[i])):=by rw[xk _ _ _ _ _ hi,iU]
 have hmin:Min.min i 64=i:=by omega
 have hu:IntKind.u64.wrap (i:Int)=i:=by unfold IntKind.wrap;simp[IntKind.bits,IntKind.signed];omega
 have hdiv:0≤n.fdiv ((2^i:Nat):Int):=Int.fdiv_nonneg hn (Int.natCast_nonneg _);have hbit:(n.fdiv ((2^i:Nat):Int)).tmod 2=nX n i:=by
  unfold nX;exact Int.tmod_eq_emod_of_nonneg hdiv
 have hbit2:(n.fdiv (2^i)).tmod 2=nX n i:=by rw[←hbit];norm_cast
 have hii:(i:Int)<3:=by omega
 have h3:i<3:=by omega
 have hng:¬(i:Int)<0:=by omega
 simp only[LX,hset,pP,aE];generalize (kD l n t w i).map aS=rr at*;simp only[aS] at h1 hat;by_cases c:l[i].val=nX n i
 ·rw[if_pos c];have hself:rr.set i [I l[i].val,I l[i].time,I l[i].df]=rr:=by
   apply List.ext_getElem?;intro j;rw[List.getElem?_set];split
   ·rename_i hj;subst hj;simp[hi2,hat]
   ·rfl
  rw[hself];simp (maxSteps:=9^9) [cP.l0,ab,hl,hlen,hat,e5,hu,hmin,hbit2,hii,h3,hng,c,IntKind.bits]
 ·rw[if_neg c];simp (maxSteps:=9^9) [cP.l0,ab,setAt,hl,hlen,hat,e5,hu,hmin,hbit2,hii,h3,hng,c,h1,aS,IntKind.bits]
theorem cP.al(h:cP.k M)(l:List nE)(n t w:Int)(hl:l.length≤1048576):run M 184 [.c (jM l),.c (I n),.a [I t,I w]] []=some (.c (.sl true 3 ((mU l n t w).map aS)),[]):=by
 obtain⟨h0,k1,k3,k2,k4⟩:=h;have h1:=bR.j_ k1 n 0 7;have h2:=dJ.al k2 l hl;have h3:=iq.al k3 l hl;refine aA (b:=cP.m) h0 ⟨4, ?_⟩;have e7:(l.map aS).length=l.length:=by simp
 have e8:(l.map aS).all (fun r=>r.all T.scalar)=true:=by simp[T.scalar]
 unfold mU;simp only[jM] at*;cases c1:lQ l
 ·simp only[au,false_and,if_false];generalize l.map aS=r at*;simp (maxSteps:=9^9) [ba,cP.m,cP.b,ab,h2,h3,c1,e7,e8,aa]
 cases c2:j_ 0 n 7
 ·simp only[au,and_false,if_false];generalize l.map aS=r at*;simp (maxSteps:=9^9) [ba,cP.m,cP.b,ab,h1,h2,h3,c1,c2,e7,e8,aa]
 have hl3:=(pb c1).1;obtain⟨g,hr⟩:=ky (f:=ct (run M) 4 cP.l0) l.length (LX l n t w) 0 (Of l n t w)
  (fun i hi x=>cP.KF k4 l n t w 4 i (jI.1 c2).1 hl3 hi x)
  (fun x=>by
   obtain⟨v,u,x⟩:=x;simp only[LX,Of,aE];generalize (kD l n t w l.length).map aS=rr;simp (maxSteps:=9^9) [cP.l0,ab])
 have e9:((kD l n t w l.length).map aS).length=l.length:=by simp[sx]
 simp only[true_and,if_true];rw[←zb];simp only[LX,Of,xi] at hr;generalize (kD l n t w l.length).map aS=rr at*;generalize l.map aS=r at*;simp[hl3] at hr;simp (maxSteps:=9^9) [ba,cP.m,cP.b,ab,hr,h1,h2,h3,c1,c2,e7,e8,e9,hl3,aa]
def j9(b:bA)(g n t w:Int):bA×Bool:=match gg b.ae g with
 |none=>(b,false)
 |some k=>match b.ae[k]? with
  |none=>(b,false)
  |some m=>if fE b=true∧j_ 0 n 7=true∧kM t w=true then({b with ae:=b.ae.set k {m with flags:=mU m.flags n t w}},true) else(b,false)
theorem ue{l:List bp}{g:Int}{k:Nat}(h:gg l g=some k):k<l.length:=vv l g _ _ _ h
theorem dV.al(h:dV.k M)(b:bA)(hb:iL b)(g n t w:Int):run M 83 [.a (af b),.c (I g),.c (I n),.a [I t,I w]] []=some (.lN [.a (cm (j9 b g n t w).1),.c (.bool (j9 b g n t w).2)],[]):=by
 obtain⟨h0,k1,k2,k3,k4,k5,k6⟩:=h;have h1:=cK.al k1 b g hb.m;have h2:=bJ.al k2 b hb.ok.1 hb.ok.2.1 hb.ok.2.2.1 hb.ok.2.2.2;have h3:=fX.al k3 n;have h4:=cB.al k4 b hb;have h5:=gI.al k5 t w;refine aA (b:=dV.m) h0 ⟨0, ?_⟩;have e7:(b.ae.map ah).length=b.ae.length:=by simp
 have e8:=aN b.gone;unfold j9;cases hk:gg b.ae g with
 |none=>
  rw[hk] at h1;simp only[dO] at h1;simp only[af,cm,ae,ints] at*;generalize fE b=ok at*;generalize b.ae.map ah=rm at*;generalize az b.gone=rg at*;cases ok<;>simp (maxSteps:=9^9) [ba,dV.m,dV.b,ab,setAt,h1,h2,h4,e7,e8,aa]
 |some k=>
  have hlt:=ue hk;rw[hk] at h1;simp only[dO] at h1;have h6:=cQ.al k6 b.ae[k].flags n t w (hb.f _ (aq hlt));have hat:(b.ae.map ah)[k]'(by rw[e7];exact hlt)=[I b.ae[k].gid,I b.ae[k].uid,jM b.ae[k].flags,S b.ae[k].text]:=by rw[f_]
  have hset:(b.ae.set k {b.ae[k] with flags:=mU b.ae[k].flags n t w}).map ah=(b.ae.map ah).set k [I b.ae[k].gid,I b.ae[k].uid,.sl false 3 ((mU b.ae[k].flags n t w).map aS),S b.ae[k].text]:=by rw[iU]
  have hng:¬(k:Int)<0:=by omega
  simp only[cj hlt];cases c1:fE b
  ·rw[c1] at h2;simp only[au,false_and,if_false];simp only[af,cm,ae,ints] at*;generalize b.ae.map ah=rm at*;generalize az b.gone=rg at*;simp (maxSteps:=9^9) [ba,dV.m,dV.b,ab,setAt,h1,h2,h4,e7,e8,aa]
  rw[c1] at h2;cases c2:j_ 0 n 7
  ·rw[c2] at h3;simp only[au,false_and,and_false,if_false];simp only[af,cm,ae,ints] at*;generalize b.ae.map ah=rm at*;generalize az b.gone=rg at*;simp (maxSteps:=9^9) [ba,dV.m,dV.b,ab,setAt,h1,h2,h3,h4,e7,e8,hng,aa]
  rw[c2] at h3;cases c3:kM t w
  ·rw[c3] at h5;simp only[au,and_false,if_false];simp only[af,cm,ae,ints] at*;generalize b.ae.map ah=rm at*;generalize az b.gone=rg at*;simp (maxSteps:=9^9) [ba,dV.m,dV.b,ab,setAt,h1,h2,h3,h4,h5,e7,e8,hng,aa]
  rw[c3] at h5;simp only[and_self,if_true];simp only[af,cm,ae,ints,hset] at*;generalize b.ae.map ah=rm at*;generalize az b.gone=rg at*;simp (maxSteps:=9^9) [ba,dV.m,dV.b,ab,setAt,h1,h2,h3,h4,h5,h6,e7,e8,hng,hlt,hat,aa]
theorem dS.al(h:dS.k M)(b:bA)(hb:iL b)(g n t w:Int):run M 84 [.a (af b),.c (I g),.c (I n),.a [I t,I w]] []=some (.lN [.a (cm (j9 b g n t w).1),.c (.bool (j9 b g n t w).2)],[]):=by
 obtain⟨h0,k2,k1,k3,k4,k5,k6⟩:=h;have h1:=bT.al k1 b g hb.m;have h2:=bE.al k2 b hb.ok.1 hb.ok.2.1 hb.ok.2.2.1 hb.ok.2.2.2;have h3:=bR.j_ k3 n 0 7;have h4:=cd.al k4 b hb;have h5:=gG.al k5 t w;refine aA (b:=dS.m) h0 ⟨0, ?_⟩;have e7:(b.ae.map ah).length=b.ae.length:=by simp
 have e8:=aN b.gone;unfold j9;cases hk:gg b.ae g with
 |none=>
  rw[hk] at h1;simp only[dO] at h1;simp only[af,cm,ae,ints] at*;generalize fE b=ok at*;generalize b.ae.map ah=rm at*;generalize az b.gone=rg at*;cases ok<;>simp (maxSteps:=9^9) [ba,dS.m,dS.b,ab,setAt,h1,h2,h4,e7,e8,aa]
 |some k=>
  have hlt:=ue hk;rw[hk] at h1;simp only[dO] at h1;have h6:=cP.al k6 b.ae[k].flags n t w (hb.f _ (aq hlt));have hat:(b.ae.map ah)[k]'(by rw[e7];exact hlt)=[I b.ae[k].gid,I b.ae[k].uid,jM b.ae[k].flags,S b.ae[k].text]:=by rw[f_]
  have hset:(b.ae.set k {b.ae[k] with flags:=mU b.ae[k].flags n t w}).map ah=(b.ae.map ah).set k [I b.ae[k].gid,I b.ae[k].uid,.sl false 3 ((mU b.ae[k].flags n t w).map aS),S b.ae[k].text]:=by rw[iU]
  have hng:¬(k:Int)<0:=by omega
  simp only[cj hlt];cases c1:fE b
  ·rw[c1] at h2;simp only[au,false_and,if_false];simp only[af,cm,ae,ints] at*;generalize b.ae.map ah=rm at*;generalize az b.gone=rg at*;simp (maxSteps:=9^9) [ba,dS.m,dS.b,ab,setAt,h1,h2,h4,e7,e8,aa]
  rw[c1] at h2;cases c2:j_ 0 n 7
  ·rw[c2] at h3;simp only[au,false_and,and_false,if_false];simp only[af,cm,ae,ints] at*;generalize b.ae.map ah=rm at*;generalize az b.gone=rg at*;simp (maxSteps:=9^9) [ba,dS.m,dS.b,ab,setAt,h1,h2,h3,h4,e7,e8,hng,aa]
  rw[c2] at h3;cases c3:kM t w
  ·rw[c3] at h5;simp only[au,and_false,if_false];simp only[af,cm,ae,ints] at*;generalize b.ae.map ah=rm at*;generalize az b.gone=rg at*;simp (maxSteps:=9^9) [ba,dS.m,dS.b,ab,setAt,h1,h2,h3,h4,h5,e7,e8,hng,aa]
  rw[c3] at h5;simp only[and_self,if_true];simp only[af,cm,ae,ints,hset] at*;generalize b.ae.map ah=rm at*;generalize az b.gone=rg at*;simp (maxSteps:=9^9) [ba,dS.m,dS.b,ab,setAt,h1,h2,h3,h4,h5,h6,e7,e8,hng,hlt,hat,aa]
def lv(b:bA)(g f:Int)(text:List UInt8)(t w:Int):bA×Bool:=
 if fE b=true∧gg b.ae g=none∧¬g∈b.gone∧j_ 0 f 7=true∧fE {b with ae:=b.ae++[⟨g,b.next,jU f t w,text⟩],next:=b.next+1}=true
 then({b with ae:=b.ae++[⟨g,b.next,jU f t w,text⟩],next:=b.next+1},true) else(b,false)
theorem eI.al(h:eI.k M)(b:bA)(hb:iL b)(g f:Int)(text:List UInt8)(t w:Int):
  run M 70 [.a (af b),.c (I g),.c (I f),.c (S text),.a [I t,I w]] []=some (.lN [.a (cm (lv b g f text t w).1),.c (.bool (lv b g f text t w).2)],[]):=by
 obtain⟨h0,k1,k2,k3,k4,k5,k6⟩:=h;have h1:=cK.al k1 b g hb.m;have h2:=bJ.al k2 b hb.ok.1 hb.ok.2.1 hb.ok.2.2.1 hb.ok.2.2.2;have h3:=fX.al k3 f;have h4:=cB.al k4 b hb;have h5:=aI.al k5 b.gone g (by have:=hb.g;omega);have h6:=gu.al k6 f t w;refine aA (b:=eI.m) h0 ⟨0, ?_⟩;have e7:(b.ae.map ah).length=b.ae.length:=by simp
 have e8:=aN b.gone;unfold lv;cases c1:fE b
 ·rw[c1] at h2;simp only[au,false_and,if_false];simp only[af,cm,ae,ints] at*;generalize b.ae.map ah=rm at*;generalize az b.gone=rg at*;simp (maxSteps:=9^9) [ba,eI.m,eI.b,ab,setAt,h2,h4,e7,e8,aa]
 rw[c1] at h2;cases hk:gg b.ae g with
 |some k=>
  have hge:(0:Int)≤k:=by omega
  rw[hk] at h1;simp only[dO] at h1;simp only[reduceCtorEq,false_and,and_false,if_false];simp only[af,cm,ae,ints] at*;generalize b.ae.map ah=rm at*;generalize az b.gone=rg at*;simp (maxSteps:=9^9) [ba,eI.m,eI.b,ab,setAt,h1,h2,h4,e7,e8,hge,aa]
 |none=>
 rw[hk] at h1;simp only[dO] at h1;by_cases c2:g∈b.gone
 ·rw[decide_eq_true c2] at h5;simp only[c2,not_true_eq_false,false_and,and_false,if_false];simp only[af,cm,ae,ints] at*;generalize b.ae.map ah=rm at*;generalize az b.gone=rg at*;simp (maxSteps:=9^9) [ba,eI.m,eI.b,ab,setAt,h1,h2,h4,h5,e7,e8,aa]
 rw[decide_eq_false c2] at h5;cases c3:j_ 0 f 7
 ·rw[c3] at h3;simp only[au,false_and,and_false,if_false];simp only[af,cm,ae,ints] at*;generalize b.ae.map ah=rm at*;generalize az b.gone=rg at*;simp (maxSteps:=9^9) [ba,eI.m,eI.b,ab,setAt,h1,h2,h3,h4,h5,e7,e8,aa]
 rw[c3] at h3;have hnx:b.next≤1000000000∧0≤b.next:=by
  have:=(jR c1).2.2.2.2.1;exact⟨this.2,this.1⟩
 have hml:=(jR c1).2.2.2.2.2.1;have e9:IntKind.i64.wrap (b.next+1)=b.next+1:=wrap_i64 (by omega) (by omega);have hout:iL {b with ae:=b.ae++[⟨g,b.next,jU f t w,text⟩],next:=b.next+1}:=by
  refine⟨by simp;omega,hb.g,hb.n,fun m hm=> ?_⟩;rcases List.mem_append.1 hm with hm|hm
  ·exact hb.f m hm
  ·simp only[gz] at hm;subst hm;simp[jU]
 have h7:=bJ.al k2 _ hout.ok.1 hout.ok.2.1 hout.ok.2.2.1 hout.ok.2.2.2;have e10:(b.ae++[(⟨g,b.next,jU f t w,text⟩:bp)]).map ah=b.ae.map ah++[[I g,I b.next,.sl false 3 ((jU f t w).map aS),S text]]:=by simp
 have e11:b.ae.length+1≤4294967296:=by omega
 simp only[af,ae,e10] at h7;simp only[c2,not_false_eq_true,true_and];cases c4:fE {b with ae:=b.ae++[⟨g,b.next,jU f t w,text⟩],next:=b.next+1}
 ·rw[c4] at h7;simp only[au,if_false];simp only[af,cm,ae,ints] at*;generalize (jU f t w).map aS=rf at*;generalize b.ae.map ah=rm at*;generalize az b.gone=rg at*;simp (maxSteps:=9^9) [ba,eI.m,eI.b,ab,setAt,h1,h2,h3,h4,h5,h6,h7,e7,e8,e9,e11,aa]
 ·rw[c4] at h7;simp only[if_true];simp only[af,cm,ae,ints,e10] at*;generalize (jU f t w).map aS=rf at*;generalize b.ae.map ah=rm at*;generalize az b.gone=rg at*;simp (maxSteps:=9^9) [ba,eI.m,eI.b,ab,setAt,h1,h2,h3,h4,h5,h6,h7,e7,e8,e9,e11,aa]
theorem eH.al(h:eH.k M)(b:bA)(hb:iL b)(g f:Int)(text:List UInt8)(t w:Int):
  run M 81 [.a (af b),.c (I g),.c (I f),.c (S text),.a [I t,I w]] []=some (.lN [.a (cm (lv b g f text t w).1),.c (.bool (lv b g f text t w).2)],[]):=by
 obtain⟨h0,k2,k1,k3,k5,k4,k6⟩:=h;have h1:=bT.al k1 b g hb.m;have h2:=bE.al k2 b hb.ok.1 hb.ok.2.1 hb.ok.2.2.1 hb.ok.2.2.2;have h3:=bR.j_ k3 f 0 7;have h4:=cd.al k4 b hb;have h5:=bj.al k5 b.gone g (by have:=hb.g;omega);have h6:=gn.al k6 f t w;refine aA (b:=eH.m) h0 ⟨0, ?_⟩;have e7:(b.ae.map ah).length=b.ae.length:=by simp
 have e8:=aN b.gone;unfold lv;cases c1:fE b
 ·rw[c1] at h2;simp only[au,false_and,if_false];simp only[af,cm,ae,ints] at*;generalize b.ae.map ah=rm at*;generalize az b.gone=rg at*;simp (maxSteps:=9^9) [ba,eH.m,eH.b,ab,setAt,h2,h4,e7,e8,aa]
 rw[c1] at h2;cases hk:gg b.ae g with
 |some k=>
  have hge:(0:Int)≤k:=by omega
  rw[hk] at h1;simp only[dO] at h1;simp only[reduceCtorEq,false_and,and_false,if_false];simp only[af,cm,ae,ints] at*;generalize b.ae.map ah=rm at*;generalize az b.gone=rg at*;simp (maxSteps:=9^9) [ba,eH.m,eH.b,ab,setAt,h1,h2,h4,e7,e8,hge,aa]
 |none=>
 rw[hk] at h1;simp only[dO] at h1;by_cases c2:g∈b.gone
 ·rw[decide_eq_true c2] at h5;simp only[c2,not_true_eq_false,false_and,and_false,if_false];simp only[af,cm,ae,ints] at*;generalize b.ae.map ah=rm at*;generalize az b.gone=rg at*;simp (maxSteps:=9^9) [ba,eH.m,eH.b,ab,setAt,h1,h2,h4,h5,e7,e8,aa]
 rw[decide_eq_false c2] at h5;cases c3:j_ 0 f 7
 ·rw[c3] at h3;simp only[au,false_and,and_false,if_false];simp only[af,cm,ae,ints] at*;generalize b.ae.map ah=rm at*;generalize az b.gone=rg at*;simp (maxSteps:=9^9) [ba,eH.m,eH.b,ab,setAt,h1,h2,h3,h4,h5,e7,e8,aa]
 rw[c3] at h3;have hnx:b.next≤1000000000∧0≤b.next:=by
  have:=(jR c1).2.2.2.2.1;exact⟨this.2,this.1⟩
 have hml:=(jR c1).2.2.2.2.2.1;have e9:IntKind.i64.wrap (b.next+1)=b.next+1:=wrap_i64 (by omega) (by omega);have hout:iL {b with ae:=b.ae++[⟨g,b.next,jU f t w,text⟩],next:=b.next+1}:=by
  refine⟨by simp;omega,hb.g,hb.n,fun m hm=> ?_⟩;rcases List.mem_append.1 hm with hm|hm
  ·exact hb.f m hm
  ·simp only[gz] at hm;subst hm;simp[jU]
 have h7:=bE.al k2 _ hout.ok.1 hout.ok.2.1 hout.ok.2.2.1 hout.ok.2.2.2;have e10:(b.ae++[(⟨g,b.next,jU f t w,text⟩:bp)]).map ah=b.ae.map ah++[[I g,I b.next,.sl false 3 ((jU f t w).map aS),S text]]:=by simp
 have e11:b.ae.length+1≤4294967296:=by omega
 simp only[af,ae,e10] at h7;simp only[c2,not_false_eq_true,true_and];cases c4:fE {b with ae:=b.ae++[⟨g,b.next,jU f t w,text⟩],next:=b.next+1}
 ·rw[c4] at h7;simp only[au,if_false];simp only[af,cm,ae,ints] at*;generalize (jU f t w).map aS=rf at*;generalize b.ae.map ah=rm at*;generalize az b.gone=rg at*;simp (maxSteps:=9^9) [ba,eH.m,eH.b,ab,setAt,h1,h2,h3,h4,h5,h6,h7,e7,e8,e9,e11,aa]
 ·rw[c4] at h7;simp only[if_true];simp only[af,cm,ae,ints,e10] at*;generalize (jU f t w).map aS=rf at*;generalize b.ae.map ah=rm at*;generalize az b.gone=rg at*;simp (maxSteps:=9^9) [ba,eH.m,eH.b,ab,setAt,h1,h2,h3,h4,h5,h6,h7,e7,e8,e9,e11,aa]
end Mx
namespace Mx
attribute [simp] uc
open Go
variable {M:Nat→Option Body}
theorem BY{l:List Int}{n:Int}(hl:yX l):aR l [n]=ld l n:=
 AI (n8 l [n]) (uu hl) fun z=>by rw[je,oS];simp;exact or_comm
theorem jG.al(h:jG.k M)(a:List Int)(n:Int)(ha:a.length≤1048576):run M 163 [.c (ints a),.c (I n)] []=some (.c (.sl true 1 (az (aR a [n]))),[]):=by
 obtain⟨h0,k1,k2,k3⟩:=h;have h1:=fc.al k1 a ha;have hab:(a++[n]).length≤4294967296:=by simp;omega
 have h2:=A5 k2 (a++[n]) hab;have hsl:(lT (a++[n])).length=(a++[n]).length:=by simp[lT]
 have h3:=vG k3 (lT (a++[n])) (by rw[hsl];exact hab);rw[ta] at h3;have hjl:(aR a [n]).length≤(a++[n]).length:=by
  have:=sG (a++[n]) [];simp only[aR];simpa using this
 refine aA (b:=jG.m) h0 ⟨0, ?_⟩;rw[hsl] at h3;have e1:az (a++[n])=az a++[[I n]]:=po a n;have e2:az (aR a [n]++List.replicate ((a++[n]).length-(aR a [n]).length) 0)=az (aR a [n])++az (List.replicate ((a++[n]).length-(aR a [n]).length) 0):=by simp[az]
 rw[e1] at h2;rw[e2] at h3;simp only[ax,bZ] at h2 h3 hab hjl;have l1:=aN a;have l3:=aN (aR a [n]);have l4:(az (List.replicate (a.length+1-(aR a [n]).length) 0)).length=a.length+1-(aR a [n]).length:=by simp[az]
 have s1:=kY (lT (a++[n]));have s2:=kY (aR a [n]);have l5:=aN (lT (a++[n]));rw[hsl] at l5;simp only[ax,bZ] at l5;simp only[ints] at h1 ⊢;generalize az (List.replicate (a.length+1-(aR a [n]).length) 0)=rz at*;generalize az (lT (a++[n]))=rs at*;generalize aR a [n]=j at*;generalize az j=rj at*;have e5:a.length≤4294967296:=by omega
 have e6:j.length≤rj.length+rz.length:=by omega
 generalize az a=ra at*;simp (maxSteps:=9^9) [ba,jG.m,jG.b,ab,h1,h2,h3,hab,l1,l3,l4,l5,s1,s2,aa]
theorem DJ{α:Type}(x:α)(q:List α):∃q' y,x::q=q'++[y]∧q'.length=q.length:=by
 refine⟨(x::q).dropLast,(x::q).getLast (by simp),(List.dropLast_concat_getLast (by simp)).symm,by simp⟩
theorem sP(h:a7.k M)(p:List (List T))(x:List T)(q:List (List T))(hl:p.length+(q.length+1)≤1048576):
  run M 162 [.c (.row 0 0 0 (p.length+(q.length+1))),.c (I p.length),.c (I ((p.length:Int)+1))] [(0,⟨0,4,true,false,p++x::q⟩)]=
   some (.c (.row 0 0 0 (p.length+q.length)),[(0,⟨0,4,true,false,p++q++[s9]⟩)]):=by
 refine aA (b:=a7.m) h ⟨0, ?_⟩;obtain⟨q',y,hy,hq'⟩:=DJ x q;have g1:(0:Int)≤(p.length:Int)+1:=by omega
 have g2:¬(p.length:Int)=(p.length:Int)+1:=by omega
 have g3:(p++x::q).take p.length=p:=by simp
 have g4:(p++x::q).drop (p.length+1)=q:=by simp
 have g5:(p++x::q).drop (p.length+q.length)=[y]:=by
  rw[hy,←hq',List.drop_append];simp
 have g6:p.length+(q.length+1)-(p.length+1)=q.length:=by omega
 have g7:(p++x::q).length=p.length+(q.length+1):=by simp
 have g8:p.length+(q.length+1)-(p.length+q.length)=1:=by omega
 have g9:p.length+q.length≤p.length+(q.length+1):=by omega
 have g10:p.length+q.length≤4294967296:=by omega
 have g11:¬p.length+q.length=p.length+(q.length+1):=by omega
 have g12:(p++q++[y]).length=p.length+(q.length+1):=by simp
 have g13:(p++q++[y]).take (p.length+q.length)=p++q:=by rw[←ax,List.take_left]
 have g19:(1:Int)≤(q.length:Int)+1:=by omega
 have g20:1≤q.length+1:=by omega
 have g14:(p++q++[y]).drop (p.length+(q.length+1))=[]:=eO (by rw[g12];omega);have g15:p.length+1≤p.length+(q.length+1):=by omega
 have g16:p.length+q.length+1=p.length+(q.length+1):=by omega
 have g17:(0:Int)≤(p.length:Int)+(q.length:Int):=by omega
 have g18:(0:Int)≤(p.length:Int)+((q.length:Int)+1):=by omega
 have g21:p.length+1+q.length≤p.length+(q.length+1):=by omega
 have g22:1+q.length≤q.length+1:=by omega
 generalize hR:p++x::q=R at*;simp only[bN] at g12 g13 g14;by_cases hq0:q=[]
 ·subst hq0;by_cases hz:p.length=0
  ·have hp:p=[]:=aZ hz;subst hp;simp at g1 g2 g3 g4 g5 g6 g7 g8 g9 g10 g11 g12 g13 g14 g15 g16 g17 g18;simp (maxSteps:=9^9) [ba,a7.m,a7.b,ab,g5]
  ·simp at g1 g2 g3 g4 g5 g6 g7 g8 g9 g10 g11 g12 g13 g14 g15 g16 g17 g18;simp (maxSteps:=9^9) [ba,a7.m,a7.b,ab,g1,g2,g3,g5,g7,g10,hz]
 ·have g23:((p.length:Int)+(q.length:Int)).toNat=p.length+q.length:=by omega
  have g24:((p.length:Int)+((q.length:Int)+1)).toNat=p.length+(q.length+1):=by omega
  have g25:max ((p.length:Int)+(q.length:Int)) 0≤(p.length:Int)+((q.length:Int)+1):=by omega
  by_cases hz:p.length=0
  ·have hp:p=[]:=aZ hz;subst hp;simp at g1 g2 g3 g4 g5 g6 g7 g8 g9 g10 g11 g12 g13 g14 g15 g16 g17 g18;simp (maxSteps:=9^9) [ba,a7.m,a7.b,ab,g4,g5,g7,g10,g18,g20,g22,hq0,aa]
  ·simp (maxSteps:=9^9) [ba,a7.m,a7.b,ab,g1,g2,g3,g4,g5,g6,g7,g8,g9,g10,g12,g13,g14,g15,g16,g17,g18,g21,g23,g24,hz,hq0,aa]
end Mx
namespace Mx
open Go
variable {M:Nat→Option Body}
theorem xX{l:List Int}{most:Int}(h:lZ l most=true):yX l:=by
 simp only[lZ,aj,decide_eq_true_eq,cn,ju] at h;have hn:∀j (hj:j<l.length),∀i (hi:i<j),l[i]'(by omega)<l[j]:=by
  intro j
  induction j with
  |zero=>intro _ i hi;omega
  |succ j ih=>
   intro hj i hi;have:=h.1 (j+1) hj;rw[oE hj] at this;simp at this;by_cases e:i=j
   ·subst e;exact this.2
   ·exact Int.lt_trans (ih (by omega) i (by omega)) this.2
 exact List.pairwise_iff_getElem.2 fun i j hi hj hij=>hn j hj i hij
theorem yv{b:bA}(h:fE b=true):lZ b.gone 40=true:=by
 simp only[fE,aj] at h;exact h.1.2
def kL(b:bA)(g:Int):bA×Bool:=match gg b.ae g with
 |none=>(b,false)
 |some k=>if fE b=true∧b.gone.length<40 then({b with ae:=b.ae.take k++b.ae.drop (k+1),gone:=ld b.gone g},true) else(b,false)
theorem uO(h:a7.k M)(r:List (List T))(k:Nat)(hk:k<r.length)(hl:r.length≤1048576):
  run M 162 [.c (.row 0 0 0 r.length),.c (I k),.c (I ((k:Int)+1))] [(0,⟨0,4,true,false,r⟩)]=
   some (.c (.row 0 0 0 (r.length-1)),[(0,⟨0,4,true,false,r.take k++r.drop (k+1)++[s9]⟩)]):=by
 have e:r.take k++r[k]::r.drop (k+1)=r:=by simp
 have:=sP h (r.take k) r[k] (r.drop (k+1)) (by simp;omega);rw[e] at this;have e1:(r.take k).length=k:=by simp;omega
 have e2:(r.drop (k+1)).length=r.length-(k+1):=by simp
 rw[e1,e2] at this;have e3:k+(r.length-(k+1)+1)=r.length:=by omega
 have e4:k+(r.length-(k+1))=r.length-1:=by omega
 rw[e3,e4] at this;exact this
theorem fY.al(h:fY.k M)(b:bA)(hb:iL b)(g:Int):run M 73 [.a (af b),.c (I g)] []=some (.lN [.a (cm (kL b g).1),.c (.bool (kL b g).2)],[]):=by
 obtain⟨h0,k1,k2,k3,k4,k5⟩:=h;have h1:=cK.al k1 b g hb.m;have h2:=bJ.al k2 b hb.ok.1 hb.ok.2.1 hb.ok.2.2.1 hb.ok.2.2.2;have h4:=cB.al k3 b hb;have h5:=jG.al k5 b.gone g hb.g;refine aA (b:=fY.m) h0 ⟨0, ?_⟩;have e7:(b.ae.map ah).length=b.ae.length:=by simp
 have e8:=aN b.gone;unfold kL;cases hk:gg b.ae g with
 |none=>
  rw[hk] at h1;simp only[dO] at h1;simp only[af,cm,ae,ints] at*;generalize fE b=ok at*;generalize b.ae.map ah=rm at*;generalize az b.gone=rg at*;cases ok<;>simp (maxSteps:=9^9) [ba,fY.m,fY.b,ab,setAt,h1,h2,h4,e7,e8,aa]
 |some k=>
  have hlt:=ue hk;rw[hk] at h1;simp only[dO] at h1;have hng:¬(k:Int)<0:=by omega
  cases c1:fE b
  ·rw[c1] at h2;simp only[au,false_and,if_false];simp only[af,cm,ae,ints] at*;generalize b.ae.map ah=rm at*;generalize az b.gone=rg at*;simp (maxSteps:=9^9) [ba,fY.m,fY.b,ab,setAt,h1,h2,h4,e7,e8,aa]
  rw[c1] at h2;have h40:=(jR c1).2.2.2.2.2.2.1;have hml:=(jR c1).2.2.2.2.2.1;by_cases c2:b.gone.length<40
  ·have n2:¬b.gone.length=40:=by omega
   have n3:¬(b.gone.length:Int)=40:=by omega
   simp only[c2,and_self,if_true];rw[BY (xX (yv c1))] at h5;have h6:=uO k4 (b.ae.map ah) k (by rw[e7];exact hlt) (by rw[e7];exact hb.m);rw[e7] at h6;have e9:=cA (i:=k) (by omega);have e10:(b.ae.take k++b.ae.drop (k+1)).map ah=(b.ae.map ah).take k++(b.ae.map ah).drop (k+1):=by simp
   have e11:((b.ae.map ah).take k++((b.ae.map ah).drop (k+1)++[s9])).take (b.ae.length-1)=(b.ae.map ah).take k++(b.ae.map ah).drop (k+1):=by
    rw[←bN];exact List.take_left' (by simp;omega)
   have e12:=aN (ld b.gone g);have e13:b.ae.length≤min k b.ae.length+(b.ae.length-(k+1)+1)+1:=by omega
   simp only[af,cm,ae,ints,e10] at*;generalize b.ae.map ah=rm at*;generalize az b.gone=rg at*;generalize az (ld b.gone g)=ru at*;simp (maxSteps:=9^9) [ba,fY.m,fY.b,ab,setAt,h1,h2,h4,h5,h6,e7,e8,e9,e11,e12,e13,hng,n3,aa]
  ·have n2:b.gone.length=40:=by omega
   have n3:(b.gone.length:Int)=40:=by omega
   simp only[c2,and_false,if_false];simp only[af,cm,ae,ints] at*;generalize b.ae.map ah=rm at*;generalize az b.gone=rg at*;simp (maxSteps:=9^9) [ba,fY.m,fY.b,ab,setAt,h1,h2,h4,e7,e8,n2,hng,aa]
theorem du.al(h:du.k M)(b:bA)(hb:iL b)(g:Int):run M 86 [.a (af b),.c (I g)] []=some (.lN [.a (cm (kL b g).1),.c (.bool (kL b g).2)],[]):=by
 obtain⟨h0,k2,k1,k5,k3⟩:=h;have h1:=bT.al k1 b g hb.m;have h2:=bE.al k2 b hb.ok.1 hb.ok.2.1 hb.ok.2.2.1 hb.ok.2.2.2;have h4:=cd.al k3 b hb;have h5:=b9.al k5 b.gone g (by have:=hb.g;omega);refine aA (b:=du.m) h0 ⟨0, ?_⟩;have e7:(b.ae.map ah).length=b.ae.length:=by simp
 have e8:=aN b.gone;unfold kL;cases hk:gg b.ae g with
 |none=>
  rw[hk] at h1;simp only[dO] at h1;simp only[af,cm,ae,ints] at*;generalize fE b=ok at*;generalize b.ae.map ah=rm at*;generalize az b.gone=rg at*;cases ok<;>simp (maxSteps:=9^9) [ba,du.m,du.b,ab,setAt,h1,h2,h4,e7,e8,aa]
 |some k=>
  have hlt:=ue hk;rw[hk] at h1;simp only[dO] at h1;have hng:¬(k:Int)<0:=by omega
  cases c1:fE b
  ·rw[c1] at h2;simp only[au,false_and,if_false];simp only[af,cm,ae,ints] at*;generalize b.ae.map ah=rm at*;generalize az b.gone=rg at*;simp (maxSteps:=9^9) [ba,du.m,du.b,ab,setAt,h1,h2,h4,e7,e8,aa]
  rw[c1] at h2;have h40:=(jR c1).2.2.2.2.2.2.1;have hml:=(jR c1).2.2.2.2.2.1;by_cases c2:b.gone.length<40
  ·have n2:¬40≤b.gone.length:=by omega
   have n3:¬(40:Int)≤(b.gone.length:Int):=by omega
   simp only[c2,and_self,if_true];have e9:=cA (i:=k) (by omega);have e10:(b.ae.take k++b.ae.drop (k+1)).map ah=(b.ae.map ah).take k++(b.ae.map ah).drop (k+1):=by simp
   have e14:min k b.ae.length=k:=by omega
   have e12:=aN (ld b.gone g);have e13:b.ae.length≤min k b.ae.length+(b.ae.length-(k+1)+1)+1:=by omega
   simp only[af,cm,ae,ints,e10] at*;generalize b.ae.map ah=rm at*;generalize az b.gone=rg at*;generalize az (ld b.gone g)=ru at*;have f1:k≤b.ae.length:=by omega
   have f2:k+1≤b.ae.length:=by omega
   have f3:(0:Int)≤k:=by omega
   have f4:(0:Int)≤(k:Int)+1:=by omega
   have f5:(k:Int)≤b.ae.length:=by omega
   have f6:(k:Int)+1≤b.ae.length:=by omega
   have f7:((k:Int)+1).toNat=k+1:=by omega
   have f8:rm.take b.ae.length=rm:=aa (by omega);have f9:k≤4294967296:=by omega
   have f10:b.ae.length≤4294967296:=by omega
   have f11:k+(b.ae.length-(k+1))≤4294967296:=by omega
   have f13:IntKind.i64.wrap 1=1:=wrap_i64 (by omega) (by omega);have f14:b.ae.length≤4294967297:=by omega
   have f12:rm.length-(k+1)≤4294967296:=by omega
   by_cases z:k=0
   ·subst z;by_cases y:b.ae.length=1
    ·have y2:rm.drop 1=[]:=eO (by omega);simp (maxSteps:=9^9) [ba,du.m,du.b,ab,setAt,h1,h2,h4,h5,e7,e8,e12,n3,f13,y,y2,aa]
    ·have y1:¬1=b.ae.length:=by omega
     simp (maxSteps:=9^9) [ba,du.m,du.b,ab,setAt,h1,h2,h4,h5,e7,e8,e12,n3,f1,f2,f9,f13,f14,y1,aa]
   ·have z0:¬0=k:=by omega
    by_cases y:b.ae.length=k+1
    ·have y2:rm.drop (k+1)=[]:=eO (by omega);simp (maxSteps:=9^9) [ba,du.m,du.b,ab,setAt,h1,h2,h4,h5,e7,e8,e9,e12,hng,n3,f3,f4,f7,f9,z,z0,y,y2,aa]
    ·have y1:¬k+1=b.ae.length:=by omega
     simp (maxSteps:=9^9) [ba,du.m,du.b,ab,setAt,h1,h2,h4,h5,e7,e8,e9,e12,e14,hng,n3,f1,f2,f3,f4,f7,f9,f11,z,z0,y1,aa]
  ·have n2:40≤b.gone.length:=by omega
   have n3:(40:Int)≤(b.gone.length:Int):=by omega
   simp only[c2,and_false,if_false];simp only[af,cm,ae,ints] at*;generalize b.ae.map ah=rm at*;generalize az b.gone=rg at*;simp (maxSteps:=9^9) [ba,du.m,du.b,ab,setAt,h1,h2,h4,e7,e8,n3,hng,aa]
end Mx
namespace Mx
open Go
theorem BN(l:List bp)(g:Int):∀d i k,C8 l g d i=some k→i≤k∧∃h:k<l.length,(l[k]).gid=g∧∀j,i≤j→(hj:j<k)→(l[j]'(by omega)).gid≠g
 |0,i,k,h=>by simp[C8] at h
 |d+1,i,k,h=>by
  simp only[C8] at h;split at h
  ·rename_i hi;split at h
   ·rename_i e;cases h;exact⟨Nat.le_refl _,hi,e,fun j h1 h2=>by omega⟩
   ·rename_i e;obtain⟨h1,h2,h3,h4⟩:=BN l g d (i+1) k h;refine⟨by omega,h2,h3,fun j hj hk=> ?_⟩;by_cases q:j=i
    ·subst q;exact e
    ·exact h4 j (by omega) hk
  ·cases h
theorem BO(l:List bp)(g:Int):∀d i,C8 l g d i=none→∀j,i≤j→j<i+d→(hj:j<l.length)→(l[j]).gid≠g
 |0,i,h,j,h1,h2,hj=>by omega
 |d+1,i,h,j,h1,h2,hj=>by
  simp only[C8] at h;rw[dif_pos (by omega)] at h;split at h
  ·cases h
  ·rename_i e;by_cases q:j=i
   ·subst q;exact e
   ·exact BO l g d (i+1) h j (by omega) (by omega) hj
theorem nP{l:List bp}{g:Int}{k:Nat}(h:gg l g=some k):∃h:k<l.length,(l[k]).gid=g∧∀j,(hj:j<k)→(l[j]'(by omega)).gid≠g:=by
 obtain⟨_,h1,h2,h3⟩:=BN l g _ _ _ h;exact⟨h1,h2,fun j hj=>h3 j (Nat.zero_le _) hj⟩
theorem pB{l:List bp}{g:Int}:gg l g=none↔∀m∈l,m.gid≠g:=by
 constructor
 ·intro h m hm;obtain⟨j,hj,rfl⟩:=bW hm;exact BO l g _ _ h j (Nat.zero_le _) (by omega) hj
 ·intro h;cases q:gg l g with
  |none=>rfl
  |some k=>
   obtain⟨h1,h2,_⟩:=nP q;exact(h _ (aq h1) h2).elim
theorem Gv{l:List bp}{k:Nat}(hk:k<l.length)(h:∀j,(hj:j<k)→(l[j]'(by omega)).gid≠(l[k]).gid):gg l (l[k]).gid=some k:=by
 cases q:gg l (l[k]).gid with
 |none=>exact(pB.1 q _ (aq hk) rfl).elim
 |some k'=>
  obtain⟨h1,h2,h3⟩:=nP q;rcases Nat.lt_trichotomy k' k with c|c|c
  ·exact(h k' c h2).elim
  ·rw[c]
  ·exact(h3 k c rfl).elim
structure Good (b:bA):Prop where
 gid:1≤b.gid∧b.gid≤9999
 name:nF b.name=true
 st:kM b.time b.df=true
 next:1≤b.next∧b.next≤10000
 len:b.ae.length≤10
 gone:yX b.gone
 xW:∀g∈b.gone,1≤g∧g≤9999
 nV:b.gone.length≤40
 Gw:∀m∈b.ae,i_ m=true∧m.uid<b.next∧¬m.gid∈b.gone
 Ms:b.ae.Pairwise (fun a c=>a.uid<c.uid)
 fD:b.ae.Pairwise (fun a c=>a.gid≠c.gid)
theorem w_{l:List Int}(h:∀j (hj:j+1<l.length),l[j]<l[j+1]):yX l:=by
 have hn:∀j (hj:j<l.length),∀i (hi:i<j),l[i]'(by omega)<l[j]:=by
  intro j
  induction j with
  |zero=>intro _ i hi;omega
  |succ j ih=>
   intro hj i hi;by_cases e:i=j
   ·subst e;exact h i hj
   ·exact Int.lt_trans (ih (by omega) i (by omega)) (h j hj)
 exact List.pairwise_iff_getElem.2 fun i j hi hj hij=>hn j hj i hij
theorem pF{l:List Int}{most:Int}:lZ l most=true↔yX l∧(∀g∈l,1≤g∧g≤9999)∧(l.length:Int)≤most:=by
 constructor
 ·intro h;exact⟨xX h,(nW h).2,(nW h).1⟩
 ·rintro ⟨h1,h2,h3⟩;simp only[lZ,aj,decide_eq_true_eq,cn,ju];refine⟨fun j hj=> ?_,h3⟩;rw[oE hj];have q1:=h2 _ (aq hj);simp only[gi,Bool.not_eq_eq_eq_not,Bool.not_false,Bool.and_eq_false_imp,decide_eq_true_eq,decide_eq_false_iff_not];refine⟨jI.2 q1,fun h0=> ?_⟩;have:=List.pairwise_iff_getElem.1 h1 (j-1) j (by omega) hj (by omega);omega
theorem qv{b:bA}:fE b=true↔Good b:=by
 constructor
 ·intro h;have hv:=jR h;have hg:=pF.1 (yv h);simp only[fE,aj,decide_eq_true_eq,cn,ju] at h;obtain⟨⟨⟨⟨⟨⟨h1,h2⟩,h3⟩,h4⟩,h5⟩,h6⟩,h7⟩:=h;have key:∀i (hi:i<b.ae.length),i_ b.ae[i]=true∧b.ae[i].uid<b.next∧(0<i→b.ae[i-1].uid<b.ae[i].uid)∧gg b.ae b.ae[i].gid=some i∧¬b.ae[i].gid∈b.gone:=by
   intro i hi;have:=h7 i hi;rw[nR hi] at this;simp only[gi,Bool.not_eq_eq_eq_not,Bool.not_false,Bool.and_eq_false_imp,decide_eq_true_eq,decide_eq_false_iff_not] at this;obtain⟨⟨⟨⟨q1,q2⟩,q3⟩,q4⟩,q5⟩:=this;refine⟨q1,by omega,fun h0=>by have:=q3 h0;omega, ?_,q5⟩;cases e:gg b.ae b.ae[i].gid with
   |none=>rw[e] at q4;simp only[dO] at q4;omega
   |some k=>rw[e] at q4;simp only[dO] at q4;rw[show k=i by omega]
  refine⟨jI.1 h1,h2,h3,jI.1 h4,h5,hg.1,hg.2.1,by omega,fun m hm=> ?_, ?_, ?_⟩
  ·obtain⟨j,hj,rfl⟩:=bW hm;have:=key j hj;exact⟨this.1,this.2.1,this.2.2.2.2⟩
  ·have ha:yX (b.ae.map (·.uid)):=w_ fun j hj=>by
    simp only[de] at hj;have:=(key (j+1) hj).2.2.1 (by omega);simpa using this
   exact List.pairwise_map.1 ha
  ·refine List.pairwise_iff_getElem.2 fun i j hi hj hij e=> ?_
   obtain⟨_,_,h3⟩:=nP (key j hj).2.2.2.1;exact h3 i hij e
 ·intro h;simp only[fE,aj,decide_eq_true_eq,cn,ju];refine⟨⟨⟨⟨⟨⟨jI.2 h.gid,h.name⟩,h.st⟩,jI.2 h.next⟩,h.len⟩,pF.2 ⟨h.gone,h.xW,by have:=h.nV;omega⟩⟩,fun i hi=> ?_⟩;rw[nR hi];obtain⟨q1,q2,q3⟩:=h.Gw _ (aq hi);simp only[gi,Bool.not_eq_eq_eq_not,Bool.not_false,Bool.and_eq_false_imp,decide_eq_true_eq,decide_eq_false_iff_not];refine⟨⟨⟨⟨q1,by omega⟩,fun h0=> ?_⟩, ?_⟩,q3⟩
  ·have:=List.pairwise_iff_getElem.1 h.Ms (i-1) i (by omega) hi (by omega);omega
  ·rw[Gv hi fun j hj=>List.pairwise_iff_getElem.1 h.fD j i (by omega) hi hj];rfl
structure HS (i:Nat) (b:bA):Prop where
 lY:Good b
 m:∀m∈b.ae,10≤m.gid∧m.gid≤18
 g:∀g∈b.gone,10≤g∧g≤18
 nx:b.next≤4+i
 gl:b.gone.length≤i
theorem HS.mono{i j:Nat}{b:bA}(h:HS i b)(hij:i≤j):HS j b:=⟨h.lY,h.m,h.g,by have:=h.nx;omega,by have:=h.gl;omega⟩
theorem Good.u_{b:bA}(h:Good b):iL b:=
 ⟨by have:=h.len;omega,by have:=h.nV;omega,by have:=(mZ h.name).2;omega,fun m hm=>by have:=(me (h.Gw m hm).1).2.2.1;omega⟩
theorem GR(l:List Int)(x:Int):(ld l x).length≤l.length+1:=by
 have h:∀l:List Int,(l.filter (fun y=>decide (y<x))).length+(l.filter (fun y=>decide (x<y))).length≤l.length:=by
  intro l
  induction l with
  |nil=>simp
  |cons a l ih=>
   simp only[iX];by_cases c1:a<x
   ·have c2:¬x<a:=by omega
    simp[c1,c2];omega
   ·by_cases c2:x<a
    ·simp[c1,c2];omega
    ·simp[c1,c2];omega
 have:=h l;simp only[ld,ax,bZ];omega
theorem nH{α:Type}(l:List α)(k:Nat):(l.take k++l.drop (k+1)).Sublist l:=by
 have e:l=l.take k++l.drop k:=(cr k l).symm;have h1:(l.drop (k+1)).Sublist (l.drop k):=by rw[←List.drop_drop];exact List.drop_sublist 1 _
 have h2:=List.Sublist.append (List.Sublist.refl (l.take k)) h1;rw[←e] at h2;exact h2
theorem E6{b:bA}(h:Good b){k:Nat}(hk:k<b.ae.length)(h40:b.gone.length<40):
  Good {b with ae:=b.ae.take k++b.ae.drop (k+1),gone:=ld b.gone (b.ae[k]).gid}:=by
 have hs:=nH b.ae k;have hq:=h.Gw _ (aq hk);have hv:=(me hq.1).1;have hgid:1≤(b.ae[k]).gid∧(b.ae[k]).gid≤9999:=by
  have:=hq.1;simp only[i_,aj] at this;exact jI.1 this.1.1.1
 refine⟨h.gid,h.name,h.st,h.next,by have:=hs.length_le;have:=h.len;simp only;omega,uu h.gone,fun g hg=> ?_,by have:=GR b.gone (b.ae[k]).gid;simp only;omega,fun m hm=> ?_,h.Ms.sublist hs,h.fD.sublist hs⟩
 ·rcases oS.1 hg with q|q
  ·rw[q];exact hgid
  ·exact h.xW g q
 ·have hm':=h.Gw m (hs.subset hm);refine⟨hm'.1,hm'.2.1,fun c=> ?_⟩;rcases oS.1 c with q|q
  ·rcases List.mem_append.1 hm with z|z
   ·obtain⟨j,hj,rfl⟩:=bW z;rw[List.getElem_take] at q;have hjk:j<k:=by simp at hj;omega
    exact List.pairwise_iff_getElem.1 h.fD j k (by omega) hk hjk q
   ·obtain⟨j,hj,rfl⟩:=bW z;rw[List.getElem_drop] at q;exact List.pairwise_iff_getElem.1 h.fD k (k+1+j) hk (by simp at hj;omega) (by omega) q.symm
  ·exact hm'.2.2 q
end Mx
namespace Mx
open Go
variable {M:Nat→Option Body}
theorem iM.al(h:iM.k M){R:List (List T)}(hR:Bytes R)(i:Nat)(q:Int)(hi:i≤R.length)(n:Nat)(h0:0<n)(hn:n≤256):
  ∃(s:Bool) (i':Nat) (q':Int),i'≤R.length∧run M 175 [.c (.ptr 0 0 0 0),.c (I n)] [iG R i q]=some (.c (.bool s),[iG R i' q']):=by
 obtain⟨hm,k1⟩:=h;obtain⟨x,i1,q1,hx,hi1,h1⟩:=bu.al k1 hR i q hi n h0 (by omega);refine⟨decide (x=0),i1,q1,hi1, ?_⟩;refine aA (b:=iM.m) hm ⟨0, ?_⟩;simp (maxSteps:=9^9) [ba,iM.m,iM.b,ab,h1]
theorem Good.flags{b:bA}(h:Good b):∀m∈b.ae,m.flags.length≤4:=fun m hm=>by have:=(me (h.Gw m hm).1).2.2.1;omega
end Mx
