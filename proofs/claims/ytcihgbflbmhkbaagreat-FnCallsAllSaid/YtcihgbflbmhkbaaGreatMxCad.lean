/-
  What more of the functions compute, each by a small evaluation; no condition beyond what each says.
-/
import Derived.Test.YtcihgbflbmhkbaaGreatMxCac
set_option maxHeartbeats 16000000
set_option linter.unusedSimpArgs false
set_option linter.unusedVariables false
namespace Mx
open Go
variable {M:Nat→Option Body}
def Bl(l:List bo)(g:Int):Nat→Nat→Option Nat
 |0,_=>none
 |d+1,i=>if h:i<l.length then(if l[i].gid=g then some i else Bl l g d (i+1)) else none
def fD(l:List bo)(g:Int):Option Nat:=Bl l g l.length 0
def dy:Option Nat→Int
 |some i=>i
 |none=> -1
theorem tH(l:List bo)(g:Int):∀d i k,Bl l g d i=some k→k<l.length
 |0,i,k,h=>by simp[Bl] at h
 |d+1,i,k,h=>by
  rw[Bl] at h;by_cases hl:i<l.length
  ·rw[dif_pos hl] at h;split at h
   ·cases h;exact hl
   ·exact tH l g d (i+1) k h
  ·rw[dif_neg hl] at h;cases h
def jl(q:Option Nat)(m:St):Out×St:=match q with
 |some i=>(.ret,{t:=[(4,.c (I i))],o:=[],n:=m.n})
 |none=>(.exit 0,m)
theorem oB(q:Option Nat)(m:St):(jl q m).1≠.normal:=by cases q<;>simp[jl]
theorem Ce{f:St→Option (Out×St)}{β:Type}(l:List bo)(g:Int)(S:Nat→β→St)
  (h1:∀i (h:i<l.length) x,l[i].gid=g→∃m,f (S i x)=some (jl (some i) m)) (h2:∀i (h:i<l.length) x,¬l[i].gid=g→∃y,f (S i x)=some (.normal,S (i+1) y))
  (h3:∀x,∃m,f (S l.length x)=some (jl none m)):∃g':β→St,∀x,eG f (l.length+1) (S 0 x)=some (jl (fD l g) (g' x)):=by
 refine ji (f:=f) S (fun i=>i≤l.length) (fun i=>l.length-i) (fun i=>Bl l g (l.length-i) i) jl ?_ (l.length+1) 0 (Nat.zero_le _) (by omega);intro i x hi;by_cases hlt:i<l.length
 ·have hd:l.length-i=(l.length-(i+1))+1:=by omega
  have hg:Bl l g (l.length-i) i=if l[i].gid=g then some i else Bl l g (l.length-(i+1)) (i+1):=by rw[hd,Bl,dif_pos hlt]
  simp only[hg];by_cases c:l[i].gid=g
  ·right;obtain⟨m,hm⟩:=h1 i hlt x c;rw[if_pos c];exact⟨m,hm,oB _ _⟩
  ·left;obtain⟨y,hy⟩:=h2 i hlt x c;rw[if_neg c];exact⟨i+1,y,hy,hlt,by omega,rfl⟩
 ·have:i=l.length:=by omega
  subst this;right;obtain⟨m,hm⟩:=h3 x;simp only[Nat.sub_self,Bl];exact⟨m,hm,oB _ _⟩
def xy(b:bz)(g:Int)(i:Nat)(x:Nat×Nat):St:={t:=[(1,.c (I g)),(2,.c (.ptr 2 x.1 0 0)),(5,.c (I i))],o:=[(2,⟨x.1,7,true,true,[af b]⟩)],n:=x.2}
theorem bM.ar(h:bM.k M)(b:bz)(g:Int)(hb:b.ae.length≤1048576):run M 91 [.a (af b),.c (I g)] []=some (.c (I (dy (fD b.ae g))),[]):=by
 refine aB (b:=bM.m) h ⟨b.ae.length+1, ?_⟩;obtain⟨g',hr⟩:=Ce (f:=ct (run M) (b.ae.length+1) bM.l0) b.ae g (xy b g)
  (fun i hi x c=>by
   obtain⟨v,x⟩:=x;simp[xy,bM.l0,hi,c,ah,jl];exact⟨⟨[],[],_⟩,rfl⟩)
  (fun i hi x c=>by
   obtain⟨v,x⟩:=x;have e5:=cA (i:=i) (by omega);simp only[aE];simp[xy,bM.l0,hi,c,ah,e5])
  (fun x=>by
   obtain⟨v,x⟩:=x;simp[xy,bM.l0,jl])
 cases hm:fD b.ae g with
 |none=>
  simp[xy,hm,jl] at hr;simp[bl,bM.m,bM.b,aa,hr,dy]
 |some k=>
  simp[xy,hm,jl] at hr;simp[bl,bM.m,bM.b,aa,hr,dy]
theorem f_.ar(h:f_.k M)(m:bo)(g:Int):run M 160 [.a (ah m),.c (.vp [I g] 0)] []=some (.c (.bool (decide (m.gid=g))),[]):=by
 refine aB (b:=f_.m) h ⟨0, ?_⟩;simp[bl,f_.m,f_.b,aa]
def JO(l:List bo)(g:Int)(i:Nat)(x:Nat):St:={t:=[(0,.c (ae l)),(1,.c (.fn 160 [.vp [I g] 0])),(7,.c (I l.length)),(8,.c (I i))],o:=[],n:=x}
theorem aA.ar(h:aA.k M)(h2:f_.k M)(l:List bo)(g:Int)(hl:l.length≤1048576):
  run M 161 [.c (ae l),.c (.fn 160 [.vp [I g] 0])] []=some (.c (I (dy (fD l g))),[]):=by
 refine aB (b:=aA.m) h ⟨l.length+1, ?_⟩;obtain⟨g',hr⟩:=Ce (f:=ct (run M) (l.length+1) aA.l0) l g (JO l g)
  (fun i hi x c=>by
   have hm:=f_.ar h2 l[i] g;rw[decide_eq_true c] at hm;simp[JO,aA.l0,hi,hm,ah,jl];exact⟨⟨[],[],_⟩,rfl⟩)
  (fun i hi x c=>by
   have hm:=f_.ar h2 l[i] g;rw[decide_eq_false c] at hm;have e5:=cA (i:=i) (by omega);simp[JO,aA.l0,hi,hm,ah,e5])
  (fun x=>by simp[JO,aA.l0,jl])
 cases hm:fD l g with
 |none=>
  simp[JO,hm,jl] at hr;simp[bl,aA.m,aA.b,aa,hr,dy]
 |some k=>
  simp[JO,hm,jl] at hr;simp[bl,aA.m,aA.b,aa,hr,dy]
theorem cE.ar(h:cE.k M)(b:bz)(g:Int)(hb:b.ae.length≤1048576):run M 72 [.a (af b),.c (I g)] []=some (.c (I (dy (fD b.ae g))),[]):=by
 have h1:=aA.ar h.2.2 h.2.1 b.ae g hb;refine aB (b:=cE.m) h.1 ⟨0, ?_⟩;simp[bl,cE.m,cE.b,aa,h1]
def holds(b:bz)(g:Int):Bool:=decide (0≤dy (fD b.ae g))
theorem iH.ar(h:iH.k M)(b:bz)(g:Int)(hb:b.ae.length≤1048576):run M 20 [.a (af b),.c (I g)] []=some (.c (.bool (holds b g)),[]):=by
 have h1:=cE.ar h.2 b g hb;refine aB (b:=iH.m) h.1 ⟨0, ?_⟩;simp[bl,iH.m,iH.b,aa,h1,holds,ab]
end Mx
namespace Mx
open Go
def mM(p:Nat→Bool):Nat→Nat→Option Nat
 |0,_=>none
 |d+1,i=>if p i=true then some i else mM p d (i+1)
def dW(p:Nat→Bool)(n:Nat):Option Nat:=mM p n 0
theorem uj(p:Nat→Bool):∀d i,mM p d i=none→∀j,i≤j→j<i+d→p j=false
 |0,i,_,j,h1,h2=>by omega
 |d+1,i,h,j,h1,h2=>by
  rw[mM] at h;split at h
  ·cases h
  ·by_cases e:j=i
   ·subst e;simpa using ‹¬p j=true›
   ·exact uj p d (i+1) h j (by omega) (by omega)
theorem uh(p:Nat→Bool):∀d i k,mM p d i=some k→i≤k∧k<i+d∧p k=true∧∀j,i≤j→j<k→p j=false
 |d+1,i,k,h=>by
  rw[mM] at h;split at h
  ·cases h;exact⟨by omega,by omega,‹_›,fun j h1 h2=>by omega⟩
  ·obtain⟨h1,h2,h3,h4⟩:=uh p d (i+1) k h;refine⟨by omega,by omega,h3,fun j h5 h6=> ?_⟩;by_cases e:j=i
   ·subst e;simpa using ‹¬p j=true›
   ·exact h4 j (by omega) h6
theorem kW{p:Nat→Bool}{n:Nat}(h:dW p n=none):∀j,j<n→p j=false:=fun j hj=>uj p n 0 h j (by omega) (by omega)
theorem kV{p:Nat→Bool}{n k:Nat}(h:dW p n=some k):k<n∧p k=true∧∀j,j<k→p j=false:=by
 obtain⟨_,h2,h3,h4⟩:=uh p n 0 k h;exact⟨by omega,h3,fun j hj=>h4 j (by omega) hj⟩
theorem iV{p:Nat→Bool}{n:Nat}:dW p n=none↔∀j,j<n→p j=false:=by
 refine⟨kW,fun h=> ?_⟩;cases q:dW p n with
 |none=>rfl
 |some k=>
  obtain⟨h1,h2,_⟩:=kV q;rw[h k h1] at h2;cases h2
theorem lT{γ β:Type}(n:Nat)(p:Nat→Bool){f:St→Option (Out×St)}(S:Nat→β→St)(fin:Option Nat→γ→Out×St)(hfin:∀q m,(fin q m).1≠.normal)
  (h1:∀i,i<n→∀x,p i=false→∃y,f (S i x)=some (.normal,S (i+1) y)) (h2:∀i,i<n→∀x,p i=true→∃m,f (S i x)=some (fin (some i) m))
  (h3:∀x,∃m,f (S n x)=some (fin none m)):∃g:β→γ,∀x,eG f (n+1) (S 0 x)=some (fin (dW p n) (g x)):=by
 refine ji (f:=f) S (fun i=>i≤n) (fun i=>n-i) (fun i=>mM p (n-i) i) fin ?_ (n+1) 0 (Nat.zero_le _) (by omega);intro i x hi;by_cases hlt:i<n
 ·have hd:n-i=(n-(i+1))+1:=by omega
  have hg:mM p (n-i) i=if p i=true then some i else mM p (n-(i+1)) (i+1):=by rw[hd,mM]
  simp only[hg];by_cases c:p i=true
  ·right;obtain⟨m,hm⟩:=h2 i hlt x c;rw[if_pos c];exact⟨m,hm,hfin _ _⟩
  ·left;obtain⟨y,hy⟩:=h1 i hlt x (by simpa using c);rw[if_neg c];exact⟨i+1,y,hy,hlt,by omega,rfl⟩
 ·have:i=n:=by omega
  subst this;right;obtain⟨m,hm⟩:=h3 x;simp only[Nat.sub_self,mM];exact⟨m,hm,hfin _ _⟩
theorem gd{f:St→Option (Out×St)}{n m:Nat}{s:St}{r:Out×St}(h:eG f n s=some r)(hm:n≤m):eG f m s=some r:=pL (fun _ _ h=>h) hm h
def j7{β:Type}(r:Nat)(w:T)(e:Nat)(E:β→St)(q:Option Nat)(m:β×Nat):Out×St:=match q with
 |none=>(.exit e,E m.1)
 |some _=>(.ret,{t:=[(r,.c w)],o:=[],n:=m.2})
theorem gV{β:Type}(n:Nat)(p:Nat→Bool){f:St→Option (Out×St)}(S:Nat→β→St)(r:Nat)(w:T)(e:Nat)(E:β→St)
  (h1:∀i,i<n→∀x,p i=false→∃y,f (S i x)=some (.normal,S (i+1) y)) (h2:∀i,i<n→∀x,p i=true→∃k,f (S i x)=some (.ret,{t:=[(r,.c w)],o:=[],n:=k}))
  (h3:∀x,∃y,f (S n x)=some (.exit e,E y)):∃g:β→β×Nat,∀x,eG f (n+1) (S 0 x)=some (j7 r w e E (dW p n) (g x)):=
 lT n p S (j7 r w e E) (fun q m=>by cases q<;>simp[j7]) h1 (fun i hi x c=>by
  obtain⟨k,hk⟩:=h2 i hi x c;exact⟨(x,k),hk⟩) (fun x=>by
  obtain⟨y,hy⟩:=h3 x;exact⟨(y,0),hy⟩)
theorem iS{α σ β γ:Type}(l:List α)(step:σ→α→σ)(Inv:Nat→σ→Prop){f:St→Option (Out×St)}(S:Nat→σ→β→St)(e:Nat)(E:σ→γ→St)
  (hI:∀i (h:i<l.length) s,Inv i s→Inv (i+1) (step s l[i]))
  (h1:∀i (h:i<l.length) s x,Inv i s→∃y,f (S i s x)=some (.normal,S (i+1) (step s l[i]) y))
  (h3:∀s x,Inv l.length s→∃y,f (S l.length s x)=some (.exit e,E s y)) (s:σ) (h0:Inv 0 s):
  ∃g:β→γ,∀x,eG f (l.length+1) (S 0 s x)=some (.exit e,E (l.foldl step s) (g x)):=by
 refine ji (f:=f) (fun p:Nat×σ=>S p.1 p.2) (fun p=>p.1≤l.length∧Inv p.1 p.2) (fun p=>l.length-p.1) (fun p=>(l.drop p.1).foldl step p.2) (fun q m=>(.exit e,E q m)) ?_ (l.length+1) (0,s) ⟨Nat.zero_le _,h0⟩ (by simp);rintro ⟨i,s⟩ x ⟨hi,hs⟩;simp only at hi hs;by_cases hlt:i<l.length
 ·left;obtain⟨y,hy⟩:=h1 i hlt s x hs;refine⟨(i+1,step s l[i]),y,hy,⟨hlt,hI i hlt s hs⟩,by simp only;omega, ?_⟩;simp only;rw[bA hlt,eH]
 ·have:i=l.length:=by omega
  subst this;right;obtain⟨y,hy⟩:=h3 s x hs;exact⟨y,by simp[hy],by simp⟩
theorem tj{α σ:Type}(l:List α)(step:σ→α→σ)(Inv:Nat→σ→Prop)(hI:∀i (h:i<l.length) s,Inv i s→Inv (i+1) (step s l[i])):∀s,Inv 0 s→Inv l.length (l.foldl step s):=by
 have key:∀d i s,i+d=l.length→Inv i s→Inv l.length ((l.drop i).foldl step s):=by
  intro d
  induction d with
  |zero=>intro i s hi h;have:i=l.length:=by omega
         subst this;simpa using h
  |succ d ih=>
   intro i s hi h;have hlt:i<l.length:=by omega
   rw[bA hlt,eH];exact ih (i+1) _ (by omega) (hI i hlt s h)
 intro s h;simpa using key l.length 0 s (by omega) h
def texts{α:Type}(t:α→List UInt8)(l:List α):List UInt8:=l.flatMap t
theorem Au{α:Type}(t:α→List UInt8)(l:List α)(s:List UInt8):l.foldl (fun s x=>s++t x) s=s++texts t l:=by
 induction l generalizing s with
 |nil=>simp[texts]
 |cons x l ih=>simp[ih,texts,cC]
theorem mB{α:Type}(t:α→List UInt8)(l:List α)(c:Nat)(h:∀x∈l,(t x).length≤c):(texts t l).length≤l.length*c:=by
 induction l with
 |nil=>simp[texts]
 |cons x l ih=>
  have h1:=ih fun y hy=>h y (bp _ hy)
  have h2:=h x (bj ..);simp only[texts,cC,aF,b7] at h1 ⊢;have:(l.length+1)*c=l.length*c+c:=Nat.succ_mul _ _;omega
theorem oT{α β γ:Type}(l:List α)(t:α→List UInt8)(c a:Nat)(hc:∀x∈l,(t x).length≤c){f:St→Option (Out×St)}(S:Nat→List UInt8→β→St)(e:Nat)(E:List UInt8→γ→St)
  (h1:∀i (h:i<l.length) s x,s.length≤a+i*c→∃y,f (S i s x)=some (.normal,S (i+1) (s++t l[i]) y))
  (h3:∀s x,∃y,f (S l.length s x)=some (.exit e,E s y)) (s:List UInt8) (h0:s.length≤a):
  ∃g:β→γ,∀x,eG f (l.length+1) (S 0 s x)=some (.exit e,E (s++texts t l) (g x)):=by
 have:=iS l (fun s x=>s++t x) (fun i s=>s.length≤a+i*c) S e E (fun i h s hs=>by
  have h2:=hc _ (ax h);have:(i+1)*c=i*c+c:=Nat.succ_mul _ _;simp only[aF];omega) h1 (fun s x _=>h3 s x) s (by simpa using h0)
 simpa only[Au] using this
end Mx
namespace Mx
open Go
variable {M:Nat→Option Body}
def jE(a n b:Int):Bool:=decide (a≤n)&&decide (n≤b)
theorem b_.jE(h:b_.k M)(n a b:Int):run M 101 [.c (I n),.c (I a),.c (I b)] []=some (.c (.bool (jE a n b)),[]):=b_.ar h n a b
theorem bS.jE(h:bS.k M)(n a b:Int):run M 98 [.c (I n),.c (I a),.c (I b)] []=some (.c (.bool (jE a n b)),[]):=bS.ar h n a b
def j2(t w:Int):Bool:=jE 0 t 100000&&jE 0 w 2
theorem fX.ar(h:fX.k M)(t w:Int):run M 164 [.a [I t,I w]] []=some (.c (.bool (j2 t w)),[]):=by
 have h1:=b_.jE h.2 t 0 100000;have h2:=b_.jE h.2 w 0 2;refine aB (b:=fX.m) h.1 ⟨0, ?_⟩;cases c:jE 0 t 100000<;>simp (maxSteps:=9^9) (disch:=(first|omega|(simp;done)|(simp;omega))) [bl,fX.m,fX.b,aa,h1,h2,c,j2]
theorem fV.ar(h:fV.k M)(t w:Int):run M 183 [.a [I t,I w]] []=some (.c (.bool (j2 t w)),[]):=by
 have h1:=bS.jE h.2 t 0 100000;have h2:=bS.jE h.2 w 0 2;refine aB (b:=fV.m) h.1 ⟨0, ?_⟩;cases c:jE 0 t 100000<;>simp (maxSteps:=9^9) (disch:=(first|omega|(simp;done)|(simp;omega))) [bl,fV.m,fV.b,aa,h1,h2,c,j2]
def nN(r:mi):Bool:=j2 r.time r.eE&&jE 0 r.val 1000000000
theorem iF.ar(h:iF.k M)(r:mi):run M 272 [.a (aR r)] []=some (.c (.bool (nN r)),[]):=by
 have h1:=fX.ar h.2.2 r.time r.eE;have h2:=b_.jE h.2.1 r.val 0 1000000000;refine aB (b:=iF.m) h.1 ⟨0, ?_⟩;cases c:j2 r.time r.eE<;>simp (maxSteps:=9^9) (disch:=(first|omega|(simp;done)|(simp;omega))) [bl,iF.m,iF.b,aa,ab,h1,h2,c,nN]
theorem iD.ar(h:iD.k M)(r:mi):run M 276 [.a (aR r)] []=some (.c (.bool (nN r)),[]):=by
 have h1:=fV.ar h.2.2 r.time r.eE;have h2:=bS.jE h.2.1 r.val 0 1000000000;refine aB (b:=iD.m) h.1 ⟨0, ?_⟩;cases c:j2 r.time r.eE<;>simp (maxSteps:=9^9) (disch:=(first|omega|(simp;done)|(simp;omega))) [bl,iD.m,iD.b,aa,ab,h1,h2,c,nN]
def pY(l:List mi)(i:Nat):Bool:=match l[i]? with
 |some r=> !nN r||decide (1<r.val)
 |none=>false
def lH(l:List mi):Bool:=(dW (pY l) l.length).isNone&&decide (l.length=3)
theorem oA{l:List mi}{i:Nat}(h:i<l.length):pY l i=(!nN l[i]||decide (1<l[i].val)):=by simp[pY,h]
def Ja(l:List mi)(i:Nat)(x:Nat):St:={t:=[(0,.c (iZ l)),(5,.c (iZ l)),(6,.c (I l.length)),(7,.c (I i))],o:=[],n:=x}
def LV(l:List mi)(x:Nat):St:={t:=[(0,.c (iZ l)),(5,.c (iZ l)),(6,.c (I l.length)),(7,.c (I l.length)),(8,.c (.bool false))],o:=[],n:=x}
theorem dw.ar(h:dw.k M)(l:List mi)(hl:l.length≤1048576):run M 235 [.c (iZ l)] []=some (.c (.bool (lH l)),[]):=by
 refine aB (b:=dw.m) h.1 ⟨l.length+1, ?_⟩;obtain⟨g,hr⟩:=gV (f:=ct (run M) (l.length+1) dw.l0) l.length (pY l) (Ja l) 2 (.bool false) 0 (LV l)
  (fun i hi x c=>by
   have e5:=cA (i:=i) (by omega);have hm:=iF.ar h.2 l[i];rw[oA hi] at c;simp at c;simp only[aR,c.1] at hm;have c2:¬(1:Int)<l[i].val:=by omega
   simp (maxSteps:=9^9) (disch:=(first|omega|(simp;done)|(simp;omega))) [dw.l0,ab,setAt,Ja,hi,hm,aR,c2,e5])
  (fun i hi x c=>by
   have hm:=iF.ar h.2 l[i];rw[oA hi] at c;cases c1:nN l[i]
   ·simp only[aR,c1] at hm;simp (maxSteps:=9^9) (disch:=(first|omega|(simp;done)|(simp;omega))) [dw.l0,ab,setAt,Ja,hi,hm,aR]
   ·simp[c1] at c;simp only[aR,c1] at hm;simp (maxSteps:=9^9) (disch:=(first|omega|(simp;done)|(simp;omega))) [dw.l0,ab,setAt,Ja,hi,hm,aR,c])
  (fun x=>by simp (maxSteps:=9^9) (disch:=(first|omega|(simp;done)|(simp;omega))) [dw.l0,Ja,LV])
 cases q:dW (pY l) l.length with
 |none=>
  simp[Ja,LV,q,j7] at hr;simp (maxSteps:=9^9) (disch:=(first|omega|(simp;done)|(simp;omega))) [bl,dw.m,dw.b,aa,hr,lH,q];omega
 |some k=>
  simp[Ja,q,j7] at hr;simp (maxSteps:=9^9) (disch:=(first|omega|(simp;done)|(simp;omega))) [bl,dw.m,dw.b,aa,hr,lH,q]
def ID(l:List mi)(i:Nat)(x:Nat):St:={t:=[(0,.c (iZ l)),(3,.c (I i))],o:=[],n:=x}
def Lx(l:List mi)(x:Nat):St:={t:=[(0,.c (iZ l)),(3,.c (I l.length)),(7,.c (.bool false))],o:=[],n:=x}
theorem du.ar(h:du.k M)(l:List mi)(hl:l.length≤1048576):run M 242 [.c (iZ l)] []=some (.c (.bool (lH l)),[]):=by
 refine aB (b:=du.m) h.1 ⟨l.length+1, ?_⟩;obtain⟨g,hr⟩:=gV (f:=ct (run M) (l.length+1) du.l0) l.length (pY l) (ID l) 2 (.bool false) 0 (Lx l)
  (fun i hi x c=>by
   have e5:=cA (i:=i) (by omega);have hm:=iD.ar h.2 l[i];rw[oA hi] at c;simp at c;simp only[aR,c.1] at hm;have c2:¬(1:Int)<l[i].val:=by omega
   simp (maxSteps:=9^9) (disch:=(first|omega|(simp;done)|(simp;omega))) [du.l0,ab,ID,hi,hm,aR,c2,e5])
  (fun i hi x c=>by
   have hm:=iD.ar h.2 l[i];rw[oA hi] at c;cases c1:nN l[i]
   ·simp only[aR,c1] at hm;simp (maxSteps:=9^9) (disch:=(first|omega|(simp;done)|(simp;omega))) [du.l0,ab,ID,hi,hm,aR]
   ·simp[c1] at c;simp only[aR,c1] at hm;simp (maxSteps:=9^9) (disch:=(first|omega|(simp;done)|(simp;omega))) [du.l0,ab,ID,hi,hm,aR,c])
  (fun x=>by simp (maxSteps:=9^9) (disch:=(first|omega|(simp;done)|(simp;omega))) [du.l0,ID,Lx])
 cases q:dW (pY l) l.length with
 |none=>
  simp[ID,Lx,q,j7] at hr;simp (maxSteps:=9^9) (disch:=(first|omega|(simp;done)|(simp;omega))) [bl,du.m,du.b,aa,hr,lH,q];omega
 |some k=>
  simp[ID,q,j7] at hr;simp (maxSteps:=9^9) (disch:=(first|omega|(simp;done)|(simp;omega))) [bl,du.m,du.b,aa,hr,lH,q]
theorem fT.ar(h:fT.k M)(n:Int):run M 147 [.c (I n)] []=some (.c (.bool (jE 1 n 9999)),[]):=by
 have h1:=b_.jE h.2 n 1 9999;refine aB (b:=fT.m) h.1 ⟨0, ?_⟩;simp (maxSteps:=9^9) (disch:=(first|omega|(simp;done)|(simp;omega))) [bl,fT.m,fT.b,aa,h1]
def iU(m:bo):Bool:=jE 1 m.gid 9999&&jE 1 m.uid 9999&&lH m.flags&&decide (m.text.length≤60)
theorem fk.ar(h:fk.k M)(m:bo)(hl:m.flags.length≤1048576):run M 166 [.a (ah m)] []=some (.c (.bool (iU m)),[]):=by
 have h1:=fT.ar h.2.1 m.gid;have h2:=fT.ar h.2.1 m.uid;have h3:=dw.ar h.2.2 m.flags hl;refine aB (b:=fk.m) h.1 ⟨0, ?_⟩;cases c1:jE 1 m.gid 9999
 ·simp (maxSteps:=9^9) (disch:=(first|omega|(simp;done)|(simp;omega))) [bl,fk.m,fk.b,aa,h1,c1,iU]
 cases c2:jE 1 m.uid 9999
 ·simp (maxSteps:=9^9) (disch:=(first|omega|(simp;done)|(simp;omega))) [bl,fk.m,fk.b,aa,h1,h2,c1,c2,iU]
 cases c3:lH m.flags
 ·simp (maxSteps:=9^9) (disch:=(first|omega|(simp;done)|(simp;omega))) [bl,fk.m,fk.b,aa,h1,h2,h3,c1,c2,c3,iU]
 simp (maxSteps:=9^9) (disch:=(first|omega|(simp;done)|(simp;omega))) [bl,fk.m,fk.b,aa,h1,h2,h3,c1,c2,c3,iU];omega
theorem dI.ar(h:dI.k M)(m:bo)(hl:m.flags.length≤1048576):run M 187 [.a (ah m)] []=some (.c (.bool (iU m)),[]):=by
 have h1:=bS.jE h.2.1 m.gid 1 9999;have h2:=bS.jE h.2.1 m.uid 1 9999;have h3:=du.ar h.2.2 m.flags hl;refine aB (b:=dI.m) h.1 ⟨0, ?_⟩;cases c1:jE 1 m.gid 9999
 ·simp (maxSteps:=9^9) (disch:=(first|omega|(simp;done)|(simp;omega))) [bl,dI.m,dI.b,aa,h1,c1,iU]
 cases c2:jE 1 m.uid 9999
 ·simp (maxSteps:=9^9) (disch:=(first|omega|(simp;done)|(simp;omega))) [bl,dI.m,dI.b,aa,h1,h2,c1,c2,iU]
 cases c3:lH m.flags
 ·simp (maxSteps:=9^9) (disch:=(first|omega|(simp;done)|(simp;omega))) [bl,dI.m,dI.b,aa,h1,h2,h3,c1,c2,c3,iU]
 simp (maxSteps:=9^9) (disch:=(first|omega|(simp;done)|(simp;omega))) [bl,dI.m,dI.b,aa,h1,h2,h3,c1,c2,c3,iU];omega
def pX(l:List UInt8)(i:Nat):Bool:=match l[i]? with
 |some b=>(decide ((b.toNat:Int)<97)||decide (122<(b.toNat:Int)))&&(decide ((b.toNat:Int)<48)||decide (57<(b.toNat:Int)))
 |none=>false
theorem pW{l:List UInt8}{i:Nat}(h:i<l.length):
  pX l i=((decide ((l[i].toNat:Int)<97)||decide (122<(l[i].toNat:Int)))&&(decide ((l[i].toNat:Int)<48)||decide (57<(l[i].toNat:Int)))):=by simp[pX,h]
def mh(l:List UInt8):Bool:=(dW (pX l) l.length).isNone&&jE 1 l.length 12
def yJ(l:List UInt8)(i:Nat)(x:Nat):St:={t:=[(0,.c (S l)),(3,.c (I i))],o:=[],n:=x}
def I9(l:List UInt8)(x:Nat):St:={t:=[(0,.c (S l)),(3,.c (I l.length)),(7,.c (.bool false))],o:=[],n:=x}
theorem dP.ar(h:dP.k M)(l:List UInt8)(hl:l.length≤4611686018427387904):run M 89 [.c (S l)] []=some (.c (.bool (mh l)),[]):=by
 have h1:=b_.jE h.2 l.length 1 12;refine aB (b:=dP.m) h.1 ⟨l.length+1, ?_⟩;obtain⟨g,hr⟩:=gV (f:=ct (run M) (l.length+1) dP.l0) l.length (pX l) (yJ l) 2 (.bool false) 0 (I9 l)
  (fun i hi x c=>by
   have e5:=cA (i:=i) (by omega);rw[pW hi] at c;generalize hb:((l[i].toNat:Nat):Int)=b at c;by_cases c1:b<97
   ·by_cases c2:b<48
    ·simp[c1,c2] at c
    ·by_cases c3:57<b
     ·simp[c1,c2,c3] at c
     ·simp (maxSteps:=9^9) (disch:=(first|omega|(simp;done)|(simp;omega))) [dP.l0,iz,yJ,hi,e5,hb,c1,c2,c3]
   ·by_cases c4:122<b
    ·have c3:57<b:=by omega
     simp[c1,c4,c3] at c
    ·simp (maxSteps:=9^9) (disch:=(first|omega|(simp;done)|(simp;omega))) [dP.l0,iz,yJ,hi,e5,hb,c1,c4])
  (fun i hi x c=>by
   rw[pW hi] at c;generalize hb:((l[i].toNat:Nat):Int)=b at c;by_cases c1:b<97
   ·by_cases c2:b<48
    ·simp (maxSteps:=9^9) (disch:=(first|omega|(simp;done)|(simp;omega))) [dP.l0,iz,yJ,hi,hb,c1,c2]
    ·by_cases c3:57<b
     ·simp (maxSteps:=9^9) (disch:=(first|omega|(simp;done)|(simp;omega))) [dP.l0,iz,yJ,hi,hb,c1,c2,c3]
     ·simp[c1,c2,c3] at c
   ·by_cases c4:122<b
    ·have c2:¬b<48:=by omega
     have c3:57<b:=by omega
     simp (maxSteps:=9^9) (disch:=(first|omega|(simp;done)|(simp;omega))) [dP.l0,iz,yJ,hi,hb,c1,c2,c3,c4]
    ·simp[c1,c4] at c)
  (fun x=>by simp (maxSteps:=9^9) (disch:=(first|omega|(simp;done)|(simp;omega))) [dP.l0,yJ,I9])
 cases q:dW (pX l) l.length with
 |none=>
  simp[yJ,I9,q,j7] at hr;simp (maxSteps:=9^9) (disch:=(first|omega|(simp;done)|(simp;omega))) [bl,dP.m,dP.b,aa,hr,mh,q,h1]
 |some k=>
  simp[yJ,q,j7] at hr;simp (maxSteps:=9^9) (disch:=(first|omega|(simp;done)|(simp;omega))) [bl,dP.m,dP.b,aa,hr,mh,q]
def yj(l:List UInt8)(i:Nat)(x:Nat):St:={t:=[(0,.c (S l)),(3,.c (I i))],o:=[],n:=x}
def IB(l:List UInt8)(x:Nat):St:={t:=[(0,.c (S l)),(3,.c (I l.length)),(7,.c (.bool false))],o:=[],n:=x}
theorem dH.ar(h:dH.k M)(l:List UInt8)(hl:l.length≤4611686018427387904):run M 90 [.c (S l)] []=some (.c (.bool (mh l)),[]):=by
 have h1:=bS.jE h.2 l.length 1 12;refine aB (b:=dH.m) h.1 ⟨l.length+1, ?_⟩;obtain⟨g,hr⟩:=gV (f:=ct (run M) (l.length+1) dH.l0) l.length (pX l) (yj l) 2 (.bool false) 0 (IB l)
  (fun i hi x c=>by
   have e5:=cA (i:=i) (by omega);rw[pW hi] at c;generalize hb:((l[i].toNat:Nat):Int)=b at c;by_cases c1:b<97
   ·by_cases c2:b<48
    ·simp[c1,c2] at c
    ·by_cases c3:57<b
     ·simp[c1,c2,c3] at c
     ·simp (maxSteps:=9^9) (disch:=(first|omega|(simp;done)|(simp;omega))) [dH.l0,iz,yj,hi,e5,hb,c1,c2,c3]
   ·by_cases c4:122<b
    ·have c3:57<b:=by omega
     simp[c1,c4,c3] at c
    ·simp (maxSteps:=9^9) (disch:=(first|omega|(simp;done)|(simp;omega))) [dH.l0,iz,yj,hi,e5,hb,c1,c4])
  (fun i hi x c=>by
   rw[pW hi] at c;generalize hb:((l[i].toNat:Nat):Int)=b at c;by_cases c1:b<97
   ·by_cases c2:b<48
    ·simp (maxSteps:=9^9) (disch:=(first|omega|(simp;done)|(simp;omega))) [dH.l0,iz,yj,hi,hb,c1,c2]
    ·by_cases c3:57<b
     ·simp (maxSteps:=9^9) (disch:=(first|omega|(simp;done)|(simp;omega))) [dH.l0,iz,yj,hi,hb,c1,c2,c3]
     ·simp[c1,c2,c3] at c
   ·by_cases c4:122<b
    ·have c2:¬b<48:=by omega
     have c3:57<b:=by omega
     simp (maxSteps:=9^9) (disch:=(first|omega|(simp;done)|(simp;omega))) [dH.l0,iz,yj,hi,hb,c1,c2,c3,c4]
    ·simp[c1,c4] at c)
  (fun x=>by simp (maxSteps:=9^9) (disch:=(first|omega|(simp;done)|(simp;omega))) [dH.l0,yj,IB])
 cases q:dW (pX l) l.length with
 |none=>
  simp[yj,IB,q,j7] at hr;simp (maxSteps:=9^9) (disch:=(first|omega|(simp;done)|(simp;omega))) [bl,dH.m,dH.b,aa,hr,mh,q,h1]
 |some k=>
  simp[yj,q,j7] at hr;simp (maxSteps:=9^9) (disch:=(first|omega|(simp;done)|(simp;omega))) [bl,dH.m,dH.b,aa,hr,mh,q]
def rX(l:List Int)(i:Nat):Bool:=match l[i]? with
 |some g=> !jE 1 g 9999||(decide (0<i)&&match l[i-1]? with|some f=>decide (g≤f)|none=>false)
 |none=>false
theorem m_{l:List Int}{i:Nat}(h:i<l.length):rX l i=(!jE 1 l[i] 9999||(decide (0<i)&&decide (l[i]≤l[i-1]))):=by
 simp[rX,h,(show i-1<l.length by omega)]
def kS(l:List Int)(most:Int):Bool:=(dW (rX l) l.length).isNone&&decide ((l.length:Int)≤most)
def Ii(l:List Int)(most:Int)(i:Nat)(x:Nat):St:={t:=[(0,.c (ints l)),(1,.c (I most)),(7,.c (ints l)),(8,.c (I l.length)),(9,.c (I i))],o:=[],n:=x}
def Mb(l:List Int)(most:Int)(x:Nat):St:={t:=[(0,.c (ints l)),(1,.c (I most)),(7,.c (ints l)),(8,.c (I l.length)),(9,.c (I l.length)),(10,.c (.bool false))],o:=[],n:=x}
theorem da.ar(h:da.k M)(l:List Int)(most:Int)(hl:l.length≤4611686018427387904):run M 165 [.c (ints l),.c (I most)] []=some (.c (.bool (kS l most)),[]):=by
 refine aB (b:=da.m) h.1 ⟨l.length+1, ?_⟩;obtain⟨g,hr⟩:=gV (f:=ct (run M) (l.length+1) da.l0) l.length (rX l) (Ii l most) 4 (.bool false) 0 (Mb l most)
  (fun i hi x c=>by
   have e5:=cA (i:=i) (by omega);have hm:=fT.ar h.2 l[i];rw[m_ hi] at c;simp at c;simp only[c.1] at hm;by_cases c1:0<i
   ·have c2:¬l[i]≤l[i-1]:=by have:=c.2 c1;omega
    have e6:IntKind.i64.wrap ((i:Int)-1)=((i-1:Nat):Int):=by rw[wrap_i64 (by omega) (by omega)];omega
    simp (maxSteps:=9^9) (disch:=(first|omega|(simp;done)|(simp;omega))) [da.l0,Ii,hi,hm,c1,c2,e5,e6]
   ·simp (maxSteps:=9^9) (disch:=(first|omega|(simp;done)|(simp;omega))) [da.l0,Ii,hi,hm,c1,e5])
  (fun i hi x c=>by
   have hm:=fT.ar h.2 l[i];rw[m_ hi] at c;cases c1:jE 1 l[i] 9999
   ·simp only[c1] at hm;simp (maxSteps:=9^9) (disch:=(first|omega|(simp;done)|(simp;omega))) [da.l0,Ii,hi,hm]
   ·simp[c1] at c;obtain⟨c2,c3⟩:=c;simp only[c1] at hm;have e6:IntKind.i64.wrap ((i:Int)-1)=((i-1:Nat):Int):=by rw[wrap_i64 (by omega) (by omega)];omega
    simp (maxSteps:=9^9) (disch:=(first|omega|(simp;done)|(simp;omega))) [da.l0,Ii,hi,hm,c2,c3,e6])
  (fun x=>by simp (maxSteps:=9^9) (disch:=(first|omega|(simp;done)|(simp;omega))) [da.l0,Ii,Mb])
 cases q:dW (rX l) l.length with
 |none=>
  simp[Ii,Mb,q,j7] at hr;simp (maxSteps:=9^9) (disch:=(first|omega|(simp;done)|(simp;omega))) [bl,da.m,da.b,aa,hr,kS,q]
 |some k=>
  simp[Ii,q,j7] at hr;simp (maxSteps:=9^9) (disch:=(first|omega|(simp;done)|(simp;omega))) [bl,da.m,da.b,aa,hr,kS,q]
def H6(l:List Int)(most:Int)(i:Nat)(x:Nat):St:={t:=[(0,.c (ints l)),(1,.c (I most)),(5,.c (I i))],o:=[],n:=x}
def Lq(l:List Int)(most:Int)(x:Nat):St:={t:=[(0,.c (ints l)),(1,.c (I most)),(5,.c (I l.length)),(9,.c (.bool false))],o:=[],n:=x}
theorem cu.ar(h:cu.k M)(l:List Int)(most:Int)(hl:l.length≤4611686018427387904):run M 186 [.c (ints l),.c (I most)] []=some (.c (.bool (kS l most)),[]):=by
 refine aB (b:=cu.m) h.1 ⟨l.length+1, ?_⟩;obtain⟨g,hr⟩:=gV (f:=ct (run M) (l.length+1) cu.l0) l.length (rX l) (H6 l most) 4 (.bool false) 0 (Lq l most)
  (fun i hi x c=>by
   have e5:=cA (i:=i) (by omega);have hm:=bS.jE h.2 l[i] 1 9999;rw[m_ hi] at c;simp at c;simp only[c.1] at hm;by_cases c1:0<i
   ·have c2:¬l[i]≤l[i-1]:=by have:=c.2 c1;omega
    have e6:IntKind.i64.wrap ((i:Int)-1)=((i-1:Nat):Int):=by rw[wrap_i64 (by omega) (by omega)];omega
    simp (maxSteps:=9^9) (disch:=(first|omega|(simp;done)|(simp;omega))) [cu.l0,H6,hi,hm,c1,c2,e5,e6]
   ·simp (maxSteps:=9^9) (disch:=(first|omega|(simp;done)|(simp;omega))) [cu.l0,H6,hi,hm,c1,e5])
  (fun i hi x c=>by
   have hm:=bS.jE h.2 l[i] 1 9999;rw[m_ hi] at c;cases c1:jE 1 l[i] 9999
   ·simp only[c1] at hm;simp (maxSteps:=9^9) (disch:=(first|omega|(simp;done)|(simp;omega))) [cu.l0,H6,hi,hm]
   ·simp[c1] at c;obtain⟨c2,c3⟩:=c;simp only[c1] at hm;have e6:IntKind.i64.wrap ((i:Int)-1)=((i-1:Nat):Int):=by rw[wrap_i64 (by omega) (by omega)];omega
    simp (maxSteps:=9^9) (disch:=(first|omega|(simp;done)|(simp;omega))) [cu.l0,H6,hi,hm,c2,c3,e6])
  (fun x=>by simp (maxSteps:=9^9) (disch:=(first|omega|(simp;done)|(simp;omega))) [cu.l0,H6,Lq])
 cases q:dW (rX l) l.length with
 |none=>
  simp[H6,Lq,q,j7] at hr;simp (maxSteps:=9^9) (disch:=(first|omega|(simp;done)|(simp;omega))) [bl,cu.m,cu.b,aa,hr,kS,q]
 |some k=>
  simp[H6,q,j7] at hr;simp (maxSteps:=9^9) (disch:=(first|omega|(simp;done)|(simp;omega))) [bl,cu.m,cu.b,aa,hr,kS,q]
def yH(l:List Int)(g:Int)(i:Nat):Bool:=match l[i]? with
 |some x=>decide (x=g)
 |none=>false
theorem qN{l:List Int}{g:Int}{i:Nat}(h:i<l.length):yH l g i=decide (l[i]=g):=by simp[yH,h]
theorem zA(l:List Int)(g:Int):(dW (yH l g) l.length).isSome=decide (g∈l):=by
 rw[Bool.eq_iff_iff];simp only[decide_eq_true_eq];cases q:dW (yH l g) l.length with
 |none=>
  have:=kW q;refine⟨fun h=>by simp at h,fun h=> ?_⟩;obtain⟨i,hi,e⟩:=bV h;have h1:=this i hi;rw[qN hi] at h1;simp[e] at h1
 |some k=>
  obtain⟨h1,h2,_⟩:=kV q;rw[qN h1] at h2;simp at h2;refine⟨fun _=> ?_,fun _=>rfl⟩;rw[←h2];exact ax h1
def Jx(l:List Int)(g:Int)(i:Nat)(x:Nat):St:={t:=[(0,.c (ints l)),(1,.c (I g)),(5,.c (I i))],o:=[],n:=x}
def Lu(l:List Int)(g:Int)(x:Nat):St:={t:=[(0,.c (ints l)),(1,.c (I g)),(5,.c (I l.length)),(9,.c (.bool false))],o:=[],n:=x}
theorem bf.ar(h:bf.k M)(l:List Int)(g:Int)(hl:l.length≤4611686018427387904):run M 132 [.c (ints l),.c (I g)] []=some (.c (.bool (decide (g∈l))),[]):=by
 refine aB (b:=bf.m) h ⟨l.length+1, ?_⟩;obtain⟨g',hr⟩:=gV (f:=ct (run M) (l.length+1) bf.l0) l.length (yH l g) (Jx l g) 4 (.bool true) 0 (Lu l g)
  (fun i hi x c=>by
   have e5:=cA (i:=i) (by omega);rw[qN hi] at c;simp at c;simp (maxSteps:=9^9) (disch:=(first|omega|(simp;done)|(simp;omega))) [bf.l0,Jx,hi,e5,c])
  (fun i hi x c=>by
   rw[qN hi] at c;simp at c;simp (maxSteps:=9^9) (disch:=(first|omega|(simp;done)|(simp;omega))) [bf.l0,Jx,hi,c])
  (fun x=>by simp (maxSteps:=9^9) (disch:=(first|omega|(simp;done)|(simp;omega))) [bf.l0,Jx,Lu])
 have hm:=zA l g;rw[←hm];cases q:dW (yH l g) l.length with
 |none=>
  simp[Jx,Lu,q,j7] at hr;simp (maxSteps:=9^9) (disch:=(first|omega|(simp;done)|(simp;omega))) [bl,bf.m,bf.b,aa,hr]
 |some k=>
  simp[Jx,q,j7] at hr;simp (maxSteps:=9^9) (disch:=(first|omega|(simp;done)|(simp;omega))) [bl,bf.m,bf.b,aa,hr]
def Jv(l:List Int)(g:Int)(i:Nat)(x:Nat):St:={t:=[(0,.c (ints l)),(1,.c (I g)),(7,.c (I l.length)),(8,.c (I i))],o:=[],n:=x}
theorem bN.ar(h:bN.k M)(l:List Int)(g:Int)(hl:l.length≤4611686018427387904):run M 234 [.c (ints l),.c (I g)] []=some (.c (I (dy (dW (yH l g) l.length))),[]):=by
 refine aB (b:=bN.m) h ⟨l.length+1, ?_⟩;obtain⟨g',hr⟩:=lT (f:=ct (run M) (l.length+1) bN.l0) l.length (yH l g) (Jv l g) jl oB
  (fun i hi x c=>by
   have e5:=cA (i:=i) (by omega);rw[qN hi] at c;simp at c;have c':¬g=l[i]:=fun q=>c q.symm
   simp (maxSteps:=9^9) (disch:=(first|omega|(simp;done)|(simp;omega))) [bN.l0,Jv,hi,e5,c'])
  (fun i hi x c=>by
   rw[qN hi] at c;simp at c;simp (maxSteps:=9^9) (disch:=(first|omega|(simp;done)|(simp;omega))) [bN.l0,Jv,hi,c,jl];exact⟨⟨[],[],_⟩,rfl⟩)
  (fun x=>by simp (maxSteps:=9^9) (disch:=(first|omega|(simp;done)|(simp;omega))) [bN.l0,Jv,jl])
 cases q:dW (yH l g) l.length with
 |none=>
  simp[Jv,q,jl] at hr;simp (maxSteps:=9^9) (disch:=(first|omega|(simp;done)|(simp;omega))) [bl,bN.m,bN.b,aa,hr,dy]
 |some k=>
  simp[Jv,q,jl] at hr;simp (maxSteps:=9^9) (disch:=(first|omega|(simp;done)|(simp;omega))) [bl,bN.m,bN.b,aa,hr,dy]
theorem EA(q:Option Nat):decide (0≤dy q)=q.isSome:=by cases q<;>simp[dy]
theorem aH.ar(h:aH.k M)(l:List Int)(g:Int)(hl:l.length≤4611686018427387904):run M 156 [.c (ints l),.c (I g)] []=some (.c (.bool (decide (g∈l))),[]):=by
 have h1:=bN.ar h.2 l g hl;refine aB (b:=aH.m) h.1 ⟨0, ?_⟩;rw[←zA l g,←EA];simp (maxSteps:=9^9) (disch:=(first|omega|(simp;done)|(simp;omega))) [bl,aH.m,aH.b,aa,h1]
def Ku(l:List Int)(x:Int)(i:Nat)(s:List Int)(m:Nat×Nat):St:={t:=[(0,.c (ints l)),(1,.c (I x)),(5,.c (.row 8 m.1 0 s.length)),(6,.c (I i))],o:=[(8,⟨m.1,1,true,false,az s⟩)],n:=m.2}
def LY(l:List Int)(x:Int)(s:List Int)(m:Nat×Nat):St:={t:=[(0,.c (ints l)),(1,.c (I x)),(5,.c (.row 8 m.1 0 s.length)),(6,.c (I l.length)),(12,.c (.bool false))],o:=[(8,⟨m.1,1,true,false,az s⟩)],n:=m.2}
def Kt(l:List Int)(x:Int)(i:Nat)(s:List Int)(m:Nat×Nat):St:={t:=[(0,.c (ints l)),(1,.c (I x)),(5,.c (.row 8 m.1 0 s.length)),(7,.c (I i))],o:=[(8,⟨m.1,1,true,false,az s⟩)],n:=m.2}
def LX(l:List Int)(x:Int)(s:List Int)(m:Nat×Nat):St:={t:=[(0,.c (ints l)),(1,.c (I x)),(5,.c (.row 8 m.1 0 s.length)),(7,.c (I l.length)),(35,.c (.bool false))],o:=[(8,⟨m.1,1,true,false,az s⟩)],n:=m.2}
theorem um(p:Int→Bool):∀(l s:List Int),l.foldl (fun s a=>if p a=true then s++[a] else s) s=s++l.filter p
 |[],s=>by simp
 |a::l,s=>by
  rw[eH,um p l,h_];by_cases h:p a=true<;>simp[h]
theorem n_(s:List Int)(a:Int):az (s++[a])=az s++[[I a]]:=by simp[az]
theorem aM(s:List Int):(az s).length=s.length:=by simp[az]
theorem bX.ar(h:bX.k M)(l:List Int)(x:Int)(hl:l.length≤16777216):run M 133 [.c (ints l),.c (I x)] []=some (.c (.sl true 1 (az (jU l x))),[]):=by
 refine aB (b:=bX.m) h ⟨l.length+1, ?_⟩;obtain⟨g,hr⟩:=iS (f:=ct (run M) (l.length+1) bX.l0) l (fun s a=>if decide (a<x)=true then s++[a] else s) (fun i s=>s.length≤i) (Ku l x) 0 (LY l x)
  (fun i h s hs=>by split<;>(try simp)<;>omega)
  (fun i hi s m hs=>by
   obtain⟨v,m⟩:=m;have e5:=cA (i:=i) (by omega);have e6:s.length+1≤4294967296:=by omega
   have e9:=aM s;simp only[aE];by_cases c:l[i]<x
   ·simp only[c,decide_true,if_true,Ku,n_];generalize az s=rr at*;simp (maxSteps:=9^9) [bX.l0,hi,c,e5,e6,e9,ab]
   ·simp only[c,decide_false,au,if_false];simp (maxSteps:=9^9) [bX.l0,Ku,hi,c,e5])
  (fun s m hs=>by
   obtain⟨v,m⟩:=m;simp only[aE];simp (maxSteps:=9^9) [bX.l0,Ku,LY]) [] (by simp)
 obtain⟨g',hr'⟩:=iS (f:=ct (run M) (l.length+1) bX.l1) l (fun s a=>if decide (x<a)=true then s++[a] else s) (fun i s=>s.length≤l.length+1+i) (Kt l x) 2 (LX l x)
  (fun i h s hs=>by split<;>(try simp)<;>omega)
  (fun i hi s m hs=>by
   obtain⟨v,m⟩:=m;have e5:=cA (i:=i) (by omega);have e6:s.length+1≤4294967296:=by omega
   have e9:=aM s;simp only[aE];by_cases c:x<l[i]
   ·simp only[c,decide_true,if_true,Kt,n_];generalize az s=rr at*;simp (maxSteps:=9^9) [bX.l1,hi,c,e5,e6,e9,ab]
   ·simp only[c,decide_false,au,if_false];simp (maxSteps:=9^9) [bX.l1,Kt,hi,c,e5])
  (fun s m hs=>by
   obtain⟨v,m⟩:=m;simp only[aE];simp (maxSteps:=9^9) [bX.l1,Kt,LX]) (l.filter (fun y=>decide (y<x))++[x]) (by have:=bQ (fun y=>decide (y<x)) l;simp;omega)
 rw[um] at hr hr';have hfl:=bQ (fun y=>decide (y<x)) l;have e6:(l.filter (fun y=>decide (y<x))).length+1≤4294967296:=by omega
 have e9:=aM (l.filter (fun y=>decide (y<x)));have e10:=aM (l.filter (fun y=>decide (y<x))++[x]++l.filter (fun y=>decide (x<y)));have e11:(l.filter (fun y=>decide (y<x))++[x]++l.filter (fun y=>decide (x<y))).length=(l.filter (fun y=>decide (y<x))).length+((l.filter (fun y=>decide (x<y))).length+1):=by simp only[aF,bP];omega
 rw[e11] at e10;have e12:=n_ (l.filter (fun y=>decide (y<x))) x;unfold jU;simp only[List.nil_append] at hr;simp only[Ku,LY,fE] at hr;simp only[Kt,LX,e12,e11,aF,bP] at hr';generalize az (l.filter (fun y=>decide (y<x))++[x]++l.filter (fun y=>decide (x<y)))=r2 at*;generalize az (l.filter (fun y=>decide (y<x)))=r1 at*;simp[az] at hr;simp at hr';simp (maxSteps:=9^9) [bl,bX.m,bX.b,aa,hr,hr',e6,e9,e10,ab]
structure GX where
 w:Nat
 v8:Nat
 v1:Nat
 v2:Nat
 r8:List (List T)
 r1:List (List T)
 n:Nat
def FT(s:List Int)(x:GX):List (Nat×Ob):=match x.w with
 |0=>[(8,⟨x.v8,1,true,false,az s⟩)]
 |_=>[(8,⟨x.v8,1,true,false,x.r8⟩),(12700,⟨x.v1,1,true,false,az s⟩)]
def FR(s:List Int)(x:GX):T:=match x.w with
 |0=> .row 8 x.v8 0 s.length
 |_=> .row 12700 x.v1 0 s.length
def gO(s:List Int)(x:GX):List (Nat×Ob):=match x.w with
 |0=>[(8,⟨x.v8,1,true,false,az s⟩)]
 |1=>[(8,⟨x.v8,1,true,false,x.r8⟩),(12700,⟨x.v1,1,true,false,az s⟩)]
 |2=>[(8,⟨x.v8,1,true,false,x.r8⟩),(14600,⟨x.v2,1,true,false,az s⟩)]
 |_=>[(8,⟨x.v8,1,true,false,x.r8⟩),(12700,⟨x.v1,1,true,false,x.r1⟩),(14600,⟨x.v2,1,true,false,az s⟩)]
def gR(s:List Int)(x:GX):T:=match x.w with
 |0=> .row 8 x.v8 0 s.length
 |1=> .row 12700 x.v1 0 s.length
 |_=> .row 14600 x.v2 0 s.length
theorem GX.of{p:GX→Prop}(w r8 r1)(h:∃v8 v1 v2 n,p ⟨w,v8,v1,v2,r8,r1,n⟩):∃x,p x:=by
 obtain⟨v8,v1,v2,n,h⟩:=h;exact⟨_,h⟩
def EG(a b:List Int)(i:Nat)(s:List Int)(x:GX):St:={t:=[(0,.c (ints a)),(1,.c (ints b)),(5,.c (FR s x)),(6,.c (I i))],o:=FT s x,n:=x.n}
def Kv(a b:List Int)(s:List Int)(x:GX):St:={t:=[(0,.c (ints a)),(1,.c (ints b)),(5,.c (FR s x)),(6,.c (I a.length)),(12,.c (.bool false))],o:=FT s x,n:=x.n}
def uR(b:List Int)(i:Nat)(s:List Int)(x:GX):St:={t:=[(1,.c (ints b)),(5,.c (gR s x)),(7,.c (I i))],o:=gO s x,n:=x.n}
def B2(b:List Int)(s:List Int)(x:GX):St:={t:=[(1,.c (ints b)),(5,.c (gR s x)),(7,.c (I b.length)),(31,.c (.bool false))],o:=gO s x,n:=x.n}
theorem jR(l:List Int):(az l).all (fun r=>r.all T.scalar)=true:=by simp[az,T.scalar]
theorem aU.J1(k1:bf.k M)(k2:bX.k M)(a b:List Int)(K i:Nat)(hi:i<a.length)(ha:a.length≤1048576)(s:List Int)(hs:s.length≤i)(x:GX):
  ∃y,ct (run M) K aU.l0 (EG a b i s x)=some (.normal,EG a b (i+1) (jz s a[i]) y):=by
 have h1:=bf.ar k1 s a[i] (by omega);have h2:=bX.ar k2 s a[i] (by omega);have e5:=cA (i:=i) (by omega);have e9:=aM s;have e10:=aM (jU s a[i]);have hfl:=jR (jU s a[i]);simp only[ints] at h1 h2;obtain⟨w,v8,v1,v2,r8,r1,n⟩:=x;unfold jz;by_cases c:a[i]∈s
 ·rw[if_pos c];rw[decide_eq_true c] at h1;refine GX.of w r8 r1 ?_
  match w with
  |0=>simp only[EG,FT,FR];generalize az s=rr at*;simp (maxSteps:=9^9) [aU.l0,hi,h1,e5,e9,ab]
  |w+1=>simp only[EG,FT,FR];generalize az s=rr at*;simp (maxSteps:=9^9) [aU.l0,hi,h1,e5,e9,ab]
 ·rw[if_neg c];rw[decide_eq_false c] at h1
  match w with
  |0=>
   refine GX.of 1 (az s) r1 ?_;simp only[EG,FT,FR];generalize az (jU s a[i])=r2 at*;generalize az s=rr at*;simp (maxSteps:=9^9) [aU.l0,hi,h1,h2,e5,e9,e10,hfl,ab]
  |w+1=>
   refine GX.of 1 r8 r1 ?_;simp only[EG,FT,FR];generalize az (jU s a[i])=r2 at*;generalize az s=rr at*;simp (maxSteps:=9^9) [aU.l0,hi,h1,h2,e5,e9,e10,hfl,ab]
theorem aU.J0(k1:bf.k M)(k2:bX.k M)(b:List Int)(K i:Nat)(hi:i<b.length)(hb:b.length≤1048576)(s:List Int)(hs:s.length≤1048576+i)(x:GX):
  ∃y,ct (run M) K aU.l1 (uR b i s x)=some (.normal,uR b (i+1) (jz s b[i]) y):=by
 have h1:=bf.ar k1 s b[i] (by omega);have h2:=bX.ar k2 s b[i] (by omega);have e5:=cA (i:=i) (by omega);have e9:=aM s;have e10:=aM (jU s b[i]);have hfl:=jR (jU s b[i]);simp only[ints] at h1 h2;obtain⟨w,v8,v1,v2,r8,r1,n⟩:=x;unfold jz;by_cases c:b[i]∈s
 ·rw[if_pos c];rw[decide_eq_true c] at h1;refine GX.of w r8 r1 ?_
  match w with
  |0=>simp only[uR,gO,gR];generalize az s=rr at*;simp (maxSteps:=9^9) [aU.l1,hi,h1,e5,e9,ab]
  |1=>simp only[uR,gO,gR];generalize az s=rr at*;simp (maxSteps:=9^9) [aU.l1,hi,h1,e5,e9,ab]
  |2=>simp only[uR,gO,gR];generalize az s=rr at*;simp (maxSteps:=9^9) [aU.l1,hi,h1,e5,e9,ab]
  |w+3=>simp only[uR,gO,gR];generalize az s=rr at*;simp (maxSteps:=9^9) [aU.l1,hi,h1,e5,e9,ab]
 ·rw[if_neg c];rw[decide_eq_false c] at h1
  match w with
  |0=>
   refine GX.of 2 (az s) r1 ?_;simp only[uR,gO,gR];generalize az (jU s b[i])=r2 at*;generalize az s=rr at*;simp (maxSteps:=9^9) [aU.l1,hi,h1,h2,e5,e9,e10,hfl,ab]
  |1=>
   refine GX.of 3 r8 (az s) ?_;simp only[uR,gO,gR];generalize az (jU s b[i])=r2 at*;generalize az s=rr at*;simp (maxSteps:=9^9) [aU.l1,hi,h1,h2,e5,e9,e10,hfl,ab]
  |2=>
   refine GX.of 2 r8 r1 ?_;simp only[uR,gO,gR];generalize az (jU s b[i])=r2 at*;generalize az s=rr at*;simp (maxSteps:=9^9) [aU.l1,hi,h1,h2,e5,e9,e10,hfl,ab]
  |w+3=>
   refine GX.of 3 r8 r1 ?_;simp only[uR,gO,gR];generalize az (jU s b[i])=r2 at*;generalize az s=rr at*;simp (maxSteps:=9^9) [aU.l1,hi,h1,h2,e5,e9,e10,hfl,ab]
theorem aU.ar(h:aU.k M)(a b:List Int)(ha:a.length≤1048576)(hb:b.length≤1048576):run M 43 [.c (ints a),.c (ints b)] []=some (.c (.sl true 1 (az (aQ a b))),[]):=by
 obtain⟨h0,k1,k2⟩:=h;refine aB (b:=aU.m) h0 ⟨a.length+b.length+1, ?_⟩;obtain⟨g,hr⟩:=iS (f:=ct (run M) (a.length+b.length+1) aU.l0) a jz (fun i s=>s.length≤i) (EG a b) 0 (Kv a b)
  (fun i h s hs=>by have:=wb s a[i];omega)
  (fun i hi s x hs=>aU.J1 k1 k2 a b _ i hi ha s hs x)
  (fun s x hs=>by
   obtain⟨w,v8,v1,v2,r8,r1,n⟩:=x;refine GX.of w r8 r1 ?_
   match w with
   |0=>simp only[EG,Kv,FT,FR];simp (maxSteps:=9^9) [aU.l0]
   |w+1=>simp only[EG,Kv,FT,FR];simp (maxSteps:=9^9) [aU.l0]) [] (by simp)
 have hla:=qO a [];obtain⟨g',hr'⟩:=iS (f:=ct (run M) (a.length+b.length+1) aU.l1) b jz (fun i s=>s.length≤1048576+i) (uR b) 2 (B2 b)
  (fun i h s hs=>by have:=wb s b[i];omega)
  (fun i hi s x hs=>aU.J0 k1 k2 b _ i hi hb s hs x)
  (fun s x hs=>by
   obtain⟨w,v8,v1,v2,r8,r1,n⟩:=x;refine GX.of w r8 r1 ?_
   match w with
   |0=>simp only[uR,B2,gO,gR];simp (maxSteps:=9^9) [aU.l1]
   |1=>simp only[uR,B2,gO,gR];simp (maxSteps:=9^9) [aU.l1]
   |2=>simp only[uR,B2,gO,gR];simp (maxSteps:=9^9) [aU.l1]
   |w+3=>simp only[uR,B2,gO,gR];simp (maxSteps:=9^9) [aU.l1]) (a.foldl jz []) (by simp at hla ⊢;omega)
 have hr2:=fun x=>gd (hr x) (show a.length+1≤a.length+b.length+1 by omega)
 have hr3:=fun x=>gd (hr' x) (show b.length+1≤a.length+b.length+1 by omega)
 have hj:b.foldl jz (a.foldl jz [])=aQ a b:=by rw[aQ,List.foldl_append]
 rw[hj] at hr3;have e9:=aM (aQ a b);generalize aQ a b=j at*;generalize a.foldl jz []=s at*;have hr4:∀y:GX,∃z:GX,eG (ct (run M) (a.length+b.length+1) aU.l1) (a.length+b.length+1) (uR b 0 s y)=some (.exit 2,B2 b j z):=fun y=>⟨_,hr3 y⟩
 have hq:=hr2 ⟨0,2000016,0,0,[],[],2000064⟩;generalize g ⟨0,2000016,0,0,[],[],2000064⟩=y at hq;clear hr hr2 hr' hr3;obtain⟨w,v8,v1,v2,r8,r1,n⟩:=y
 match w with
 |0=>
  obtain⟨⟨w',u8,u1,u2,q8,q1,m⟩,hz⟩:=hr4 ⟨0,v8,v1,v2,r8,r1,n+16⟩;simp[EG,Kv,FT,FR,az] at hq
  match w' with
  |0=>simp[uR,B2,gO,gR,az] at hz;simp only[az] at e9 ⊢;simp (maxSteps:=9^9) [bl,aU.m,aU.b,aa,hq,hz,e9,ab]
  |1=>simp[uR,B2,gO,gR,az] at hz;simp only[az] at e9 ⊢;simp (maxSteps:=9^9) [bl,aU.m,aU.b,aa,hq,hz,e9,ab]
  |2=>simp[uR,B2,gO,gR,az] at hz;simp only[az] at e9 ⊢;simp (maxSteps:=9^9) [bl,aU.m,aU.b,aa,hq,hz,e9,ab]
  |w'+3=>simp[uR,B2,gO,gR,az] at hz;simp only[az] at e9 ⊢;simp (maxSteps:=9^9) [bl,aU.m,aU.b,aa,hq,hz,e9,ab]
 |w+1=>
  obtain⟨⟨w',u8,u1,u2,q8,q1,m⟩,hz⟩:=hr4 ⟨1,v8,v1,v2,r8,r1,n+16⟩;simp[EG,Kv,FT,FR,az] at hq
  match w' with
  |0=>simp[uR,B2,gO,gR,az] at hz;simp only[az] at e9 ⊢;simp (maxSteps:=9^9) [bl,aU.m,aU.b,aa,hq,hz,e9,ab]
  |1=>simp[uR,B2,gO,gR,az] at hz;simp only[az] at e9 ⊢;simp (maxSteps:=9^9) [bl,aU.m,aU.b,aa,hq,hz,e9,ab]
  |2=>simp[uR,B2,gO,gR,az] at hz;simp only[az] at e9 ⊢;simp (maxSteps:=9^9) [bl,aU.m,aU.b,aa,hq,hz,e9,ab]
  |w'+3=>simp[uR,B2,gO,gR,az] at hz;simp only[az] at e9 ⊢;simp (maxSteps:=9^9) [bl,aU.m,aU.b,aa,hq,hz,e9,ab]
theorem zh(h:M 135=some (.ext tO))(zs:List Int)(hz:zs.length≤4294967296):run M 135 [.c (.row 0 0 0 zs.length)] [(0,⟨0,1,true,false,az zs⟩)]=some (.ll [],[(0,⟨0,1,true,false,az (kN zs)⟩)]):=by
 refine yo h ?_;simp[tO,o6,q_,hz]
theorem tQ(h:M 136=some (.ext nF))(zs:List Int)(hz:zs.length≤4294967296):
  run M 136 [.c (.row 0 0 0 zs.length)] [(0,⟨0,1,true,false,az zs⟩)]=some (.c (.row 0 0 0 (Lib.compact zs).length),[(0,⟨0,1,true,false,az (Lib.compact zs++List.replicate (zs.length-(Lib.compact zs).length) 0)⟩)]):=by
 refine yo h ?_;simp[nF,o6,q_,hz]
theorem fh.ar(h:fh.k M)(a b:List Int)(ha:a.length≤1048576)(hb:b.length≤1048576):run M 44 [.c (ints a),.c (ints b)] []=some (.c (.sl true 1 (az (aQ a b))),[]):=by
 obtain⟨h0,k1,k2,k3⟩:=h;have h1:=eJ.ar k1 a ha;have hab:(a++b).length≤4294967296:=by simp;omega
 have h2:=zh k2 (a++b) hab;have hsl:(kN (a++b)).length=(a++b).length:=by simp[kN]
 have h3:=tQ k3 (kN (a++b)) (by rw[hsl];exact hab);rw[rA] at h3;have hjl:(aQ a b).length≤(a++b).length:=by
  have:=qO (a++b) [];simp only[aQ];simpa using this
 refine aB (b:=fh.m) h0 ⟨0, ?_⟩;rw[hsl] at h3;have e1:az (a++b)=az a++az b:=by simp[az]
 have e2:az (aQ a b++List.replicate ((a++b).length-(aQ a b).length) 0)=az (aQ a b)++az (List.replicate ((a++b).length-(aQ a b).length) 0):=by simp[az]
 rw[e1] at h2;rw[e2] at h3;simp only[aF] at h2 h3 hab hjl;have l1:=aM a;have l2:=aM b;have l3:=aM (aQ a b);have l4:(az (List.replicate (a.length+b.length-(aQ a b).length) 0)).length=a.length+b.length-(aQ a b).length:=by simp[az]
 have s1:=jR (kN (a++b));have s2:=jR (aQ a b);have l5:=aM (kN (a++b));rw[hsl] at l5;simp only[aF] at l5;simp only[ints] at h1 ⊢;generalize az (List.replicate (a.length+b.length-(aQ a b).length) 0)=rz at*;generalize az (kN (a++b))=rs at*;generalize aQ a b=j at*;generalize az j=rj at*;have e5:a.length≤4294967296:=by omega
 have e6:j.length≤rj.length+rz.length:=by omega
 generalize az a=ra at*;generalize az b=rb at*;simp (maxSteps:=9^9) [bl,fh.m,fh.b,aa,h1,h2,h3,hab,l1,l2,l3,l4,l5,ab]
theorem fw.ar(h:fw.k M)(n:Int):run M 148 [.c (I n)] []=some (.c (.bool (jE 0 n 7)),[]):=by
 have h1:=b_.jE h.2 n 0 7;refine aB (b:=fw.m) h.1 ⟨0, ?_⟩;simp (maxSteps:=9^9) [bl,fw.m,fw.b,aa,h1]
def mQ(b:bz)(i:Nat):Bool:=match b.ae[i]? with
 |some m=> !iU m||decide (b.next≤m.uid)||(decide (0<i)&&match b.ae[i-1]? with|some p=>decide (m.uid≤p.uid)|none=>false)|| !decide (dy (fD b.ae m.gid)=(i:Int))||decide (m.gid∈b.gone)
 |none=>false
theorem mA{b:bz}{i:Nat}(h:i<b.ae.length):mQ b i=(!iU b.ae[i]||decide (b.next≤b.ae[i].uid)||(decide (0<i)&&decide (b.ae[i].uid≤b.ae[i-1].uid))||
  !decide (dy (fD b.ae b.ae[i].gid)=(i:Int))||decide (b.ae[i].gid∈b.gone)):=by
 simp[mQ,h,(show i-1<b.ae.length by omega)]
def fz(b:bz):Bool:=jE 1 b.gid 9999&&mh b.name&&j2 b.time b.eE&&jE 1 b.next 10000&&decide (b.ae.length≤10)&&kS b.gone 40&&(dW (mQ b) b.ae.length).isNone
def Aj(b:bz)(i:Nat)(x:Nat×Nat):St:={t:=[(1,.c (.ptr 1 x.1 0 0)),(40,.c (ae b.ae)),(41,.c (I b.ae.length)),(42,.c (I i))],o:=[(1,⟨x.1,7,true,true,[af b]⟩)],n:=x.2}
def Jb(b:bz)(x:Nat×Nat):St:={t:=[(1,.c (.ptr 1 x.1 0 0)),(40,.c (ae b.ae)),(41,.c (I b.ae.length)),(42,.c (I b.ae.length)),(43,.c (.bool false))],o:=[(1,⟨x.1,7,true,true,[af b]⟩)],n:=x.2}
theorem bG.lf(hat:cE.k M)(hin:aH.k M)(hmo:fk.k M)(b:bz)(hml:b.ae.length≤1048576)(hgl:b.gone.length≤4611686018427387904)(hw:∀m∈b.ae,m.flags.length≤1048576)
  (i:Nat) (hi:i<b.ae.length) (x:Nat×Nat) (c:mQ b i=false):∃y,ct (run M) (b.ae.length+1) bG.l0 (Aj b i x)=some (.normal,Aj b (i+1) y):=by
   obtain⟨v,x⟩:=x;simp only[aE];have hm:=fk.ar hmo b.ae[i] (hw _ (ax hi));have ha:=cE.ar hat b b.ae[i].gid hml;have hg:=aH.ar hin b.gone b.ae[i].gid hgl;simp only[ah,af] at hm ha hg;rw[mA hi] at c;simp at c;obtain⟨⟨⟨⟨c1,c2⟩,c3⟩,c4⟩,c5⟩:=c;have e5:=cA (i:=i) (by omega);rw[c1] at hm;rw[c4] at ha;rw[decide_eq_false c5] at hg;have c2':¬b.next≤b.ae[i].uid:=by omega
   by_cases c6:0<i
   ·have e6:IntKind.i64.wrap ((i:Int)-1)=((i-1:Nat):Int):=by rw[wrap_i64 (by omega) (by omega)];omega
    have c3':¬b.ae[i].uid≤b.ae[i-1].uid:=by have:=c3 c6;omega
    simp (maxSteps:=9^9) [bG.l0,setAt,Aj,ah,hi,hm,ha,hg,c2',c6,c3',e5,e6,(show i-1<b.ae.length by omega)]
   ·simp (maxSteps:=9^9) [bG.l0,setAt,Aj,ah,hi,hm,ha,hg,c2',c6,e5]
theorem bG.bad(hat:cE.k M)(hin:aH.k M)(hmo:fk.k M)(b:bz)(hml:b.ae.length≤1048576)(hgl:b.gone.length≤4611686018427387904)(hw:∀m∈b.ae,m.flags.length≤1048576)
  (i:Nat) (hi:i<b.ae.length) (x:Nat×Nat) (c:mQ b i=true):∃k,ct (run M) (b.ae.length+1) bG.l0 (Aj b i x)=some (.ret,{t:=[(2,.c (.bool false))],o:=[],n:=k}):=by
   obtain⟨v,x⟩:=x;have hm:=fk.ar hmo b.ae[i] (hw _ (ax hi));have ha:=cE.ar hat b b.ae[i].gid hml;have hg:=aH.ar hin b.gone b.ae[i].gid hgl;simp only[ah,af] at hm ha hg;rw[mA hi] at c;cases c1:iU b.ae[i]
   ·rw[c1] at hm;simp (maxSteps:=9^9) [bG.l0,setAt,Aj,ah,hi,hm]
   rw[c1] at hm;by_cases c2:b.next≤b.ae[i].uid
   ·simp (maxSteps:=9^9) [bG.l0,setAt,Aj,ah,hi,hm,c2]
   have c2':¬b.next≤b.ae[i].uid:=c2;by_cases c6:0<i
   ·have e6:IntKind.i64.wrap ((i:Int)-1)=((i-1:Nat):Int):=by rw[wrap_i64 (by omega) (by omega)];omega
    by_cases c3:b.ae[i].uid≤b.ae[i-1].uid
    ·simp (maxSteps:=9^9) [bG.l0,setAt,Aj,ah,hi,hm,c2,c6,c3,e6,(show i-1<b.ae.length by omega)]
    by_cases c4:dy (fD b.ae b.ae[i].gid)=(i:Int);rotate_left
    ·simp (maxSteps:=9^9) [bG.l0,setAt,Aj,ah,hi,hm,c2,c6,c3,e6,(show i-1<b.ae.length by omega),ha,c4]
    rw[c4] at ha;by_cases c5:b.ae[i].gid∈b.gone;rotate_left
    ·simp[c1,c2,c3,c4,c5] at c
    rw[decide_eq_true c5] at hg;simp (maxSteps:=9^9) [bG.l0,setAt,Aj,ah,hi,hm,c2,c6,c3,e6,(show i-1<b.ae.length by omega),ha,hg]
   ·have c3:=c6;by_cases c4:dy (fD b.ae b.ae[i].gid)=(i:Int);rotate_left
    ·simp (maxSteps:=9^9) [bG.l0,setAt,Aj,ah,hi,hm,c2,c6,ha,c4]
    rw[c4] at ha;by_cases c5:b.ae[i].gid∈b.gone;rotate_left
    ·simp[c1,c2,c3,c4,c5] at c
    rw[decide_eq_true c5] at hg;simp (maxSteps:=9^9) [bG.l0,setAt,Aj,ah,hi,hm,c2,c6,ha,hg]
theorem bG.ar(h:bG.k M)(b:bz)(hml:b.ae.length≤1048576)(hgl:b.gone.length≤4611686018427387904)(hnl:b.name.length≤4611686018427387904)(hw:∀m∈b.ae,m.flags.length≤1048576):
  run M 74 [.a (af b)] []=some (.c (.bool (fz b)),[]):=by
 obtain⟨h0,hat,hno,hwi,hig,hin,hso,hgo,hmo⟩:=h;have h1:=fT.ar hig b.gid;have h2:=dP.ar hno b.name hnl;have h3:=fX.ar hso b.time b.eE;have h4:=b_.jE hwi b.next 1 10000;have h5:=da.ar hgo b.gone 40 hgl;refine aB (b:=bG.m) h0 ⟨b.ae.length+1, ?_⟩;obtain⟨g,hr⟩:=gV (f:=ct (run M) (b.ae.length+1) bG.l0) b.ae.length (mQ b) (Aj b) 2 (.bool false) 0 (Jb b)
  (fun i hi x c=>bG.lf hat hin hmo b hml hgl hw i hi x c)
  (fun i hi x c=>bG.bad hat hin hmo b hml hgl hw i hi x c)
  (fun x=>by
   obtain⟨v,x⟩:=x;simp only[aE];simp (maxSteps:=9^9) [bG.l0,Aj,Jb])
 cases c1:jE 1 b.gid 9999
 ·simp (maxSteps:=9^9) [bl,bG.m,bG.b,aa,h1,c1,fz]
 cases c2:mh b.name
 ·simp (maxSteps:=9^9) [bl,bG.m,bG.b,aa,h1,h2,c1,c2,fz]
 cases c3:j2 b.time b.eE
 ·simp (maxSteps:=9^9) [bl,bG.m,bG.b,aa,h1,h2,h3,c1,c2,c3,fz]
 cases c4:jE 1 b.next 10000
 ·simp (maxSteps:=9^9) [bl,bG.m,bG.b,aa,h1,h2,h3,h4,c1,c2,c3,c4,fz]
 by_cases c5:10<b.ae.length
 ·have c5':¬b.ae.length≤10:=by omega
  have ci:(10:Int)<b.ae.length:=by omega
  simp (maxSteps:=9^9) [bl,bG.m,bG.b,aa,h1,h2,h3,h4,c1,c2,c3,c4,c5',ci,fz]
 have c5':b.ae.length≤10:=by omega
 have ci:¬(10:Int)<b.ae.length:=by omega
 cases c6:kS b.gone 40
 ·simp (maxSteps:=9^9) [bl,bG.m,bG.b,aa,h1,h2,h3,h4,h5,c1,c2,c3,c4,ci,c6,fz]
 cases q:dW (mQ b) b.ae.length with
 |none=>
  simp[Aj,Jb,q,j7] at hr;simp (maxSteps:=9^9) [bl,bG.m,bG.b,aa,h1,h2,h3,h4,h5,c1,c2,c3,c4,c5',ci,c6,hr,fz,q]
 |some k=>
  simp[Aj,q,j7] at hr;simp (maxSteps:=9^9) [bl,bG.m,bG.b,aa,h1,h2,h3,h4,h5,c1,c2,c3,c4,c5',ci,c6,hr,fz,q]
def qY(b:bz)(i:Nat)(x:Nat×Nat):St:={t:=[(1,.c (.ptr 1 x.1 0 0)),(3,.c (I i))],o:=[(1,⟨x.1,7,true,true,[af b]⟩)],n:=x.2}
def D2(b:bz)(x:Nat×Nat):St:={t:=[(1,.c (.ptr 1 x.1 0 0)),(3,.c (I b.ae.length)),(43,.c (.bool false))],o:=[(1,⟨x.1,7,true,true,[af b]⟩)],n:=x.2}
theorem bB.lf(hat:bM.k M)(hin:bf.k M)(hmo:dI.k M)(b:bz)(hml:b.ae.length≤1048576)(hgl:b.gone.length≤4611686018427387904)(hw:∀m∈b.ae,m.flags.length≤1048576)
  (i:Nat) (hi:i<b.ae.length) (x:Nat×Nat) (c:mQ b i=false):∃y,ct (run M) (b.ae.length+1) bB.l0 (qY b i x)=some (.normal,qY b (i+1) y):=by
   obtain⟨v,x⟩:=x;simp only[aE];have hm:=dI.ar hmo b.ae[i] (hw _ (ax hi));have ha:=bM.ar hat b b.ae[i].gid hml;have hg:=bf.ar hin b.gone b.ae[i].gid hgl;simp only[ah,af] at hm ha hg;rw[mA hi] at c;simp at c;obtain⟨⟨⟨⟨c1,c2⟩,c3⟩,c4⟩,c5⟩:=c;have e5:=cA (i:=i) (by omega);rw[c1] at hm;rw[c4] at ha;rw[decide_eq_false c5] at hg;have c2':¬b.next≤b.ae[i].uid:=by omega
   by_cases c6:0<i
   ·have e6:IntKind.i64.wrap ((i:Int)-1)=((i-1:Nat):Int):=by rw[wrap_i64 (by omega) (by omega)];omega
    have c3':¬b.ae[i].uid≤b.ae[i-1].uid:=by have:=c3 c6;omega
    simp (maxSteps:=9^9) [bB.l0,setAt,qY,ah,hi,hm,ha,hg,c2',c6,c3',e5,e6,(show i-1<b.ae.length by omega)]
   ·simp (maxSteps:=9^9) [bB.l0,setAt,qY,ah,hi,hm,ha,hg,c2',c6,e5]
theorem bB.bad(hat:bM.k M)(hin:bf.k M)(hmo:dI.k M)(b:bz)(hml:b.ae.length≤1048576)(hgl:b.gone.length≤4611686018427387904)(hw:∀m∈b.ae,m.flags.length≤1048576)
  (i:Nat) (hi:i<b.ae.length) (x:Nat×Nat) (c:mQ b i=true):∃k,ct (run M) (b.ae.length+1) bB.l0 (qY b i x)=some (.ret,{t:=[(2,.c (.bool false))],o:=[],n:=k}):=by
   obtain⟨v,x⟩:=x;have hm:=dI.ar hmo b.ae[i] (hw _ (ax hi));have ha:=bM.ar hat b b.ae[i].gid hml;have hg:=bf.ar hin b.gone b.ae[i].gid hgl;simp only[ah,af] at hm ha hg;rw[mA hi] at c;cases c1:iU b.ae[i]
   ·rw[c1] at hm;simp (maxSteps:=9^9) [bB.l0,setAt,qY,ah,hi,hm]
   rw[c1] at hm;by_cases c2:b.next≤b.ae[i].uid
   ·simp (maxSteps:=9^9) [bB.l0,setAt,qY,ah,hi,hm,c2]
   have c2':¬b.next≤b.ae[i].uid:=c2;by_cases c6:0<i
   ·have e6:IntKind.i64.wrap ((i:Int)-1)=((i-1:Nat):Int):=by rw[wrap_i64 (by omega) (by omega)];omega
    by_cases c3:b.ae[i].uid≤b.ae[i-1].uid
    ·simp (maxSteps:=9^9) [bB.l0,setAt,qY,ah,hi,hm,c2,c6,c3,e6,(show i-1<b.ae.length by omega)]
    by_cases c5:b.ae[i].gid∈b.gone
    ·rw[decide_eq_true c5] at hg;simp (maxSteps:=9^9) [bB.l0,setAt,qY,ah,hi,hm,c2,c6,c3,e6,(show i-1<b.ae.length by omega),hg]
    rw[decide_eq_false c5] at hg;by_cases c4:dy (fD b.ae b.ae[i].gid)=(i:Int)
    ·simp[c1,c2,c3,c4,c5] at c
    simp (maxSteps:=9^9) [bB.l0,setAt,qY,ah,hi,hm,c2,c6,c3,e6,(show i-1<b.ae.length by omega),ha,hg,c4]
   ·have c3:=c6;by_cases c5:b.ae[i].gid∈b.gone
    ·rw[decide_eq_true c5] at hg;simp (maxSteps:=9^9) [bB.l0,setAt,qY,ah,hi,hm,c2,c6,hg]
    rw[decide_eq_false c5] at hg;by_cases c4:dy (fD b.ae b.ae[i].gid)=(i:Int)
    ·simp[c1,c2,c3,c4,c5] at c
    simp (maxSteps:=9^9) [bB.l0,setAt,qY,ah,hi,hm,c2,c6,ha,hg,c4]
theorem bB.ar(h:bB.k M)(b:bz)(hml:b.ae.length≤1048576)(hgl:b.gone.length≤4611686018427387904)(hnl:b.name.length≤4611686018427387904)(hw:∀m∈b.ae,m.flags.length≤1048576):
  run M 88 [.a (af b)] []=some (.c (.bool (fz b)),[]):=by
 obtain⟨h0,hno,hat,hwi,hin,hso,hgo,hmo⟩:=h;have h1:=bS.jE hwi b.gid 1 9999;have h2:=dH.ar hno b.name hnl;have h3:=fV.ar hso b.time b.eE;have h4:=bS.jE hwi b.next 1 10000;have h5:=cu.ar hgo b.gone 40 hgl;refine aB (b:=bB.m) h0 ⟨b.ae.length+1, ?_⟩;obtain⟨g,hr⟩:=gV (f:=ct (run M) (b.ae.length+1) bB.l0) b.ae.length (mQ b) (qY b) 2 (.bool false) 0 (D2 b)
  (fun i hi x c=>bB.lf hat hin hmo b hml hgl hw i hi x c)
  (fun i hi x c=>bB.bad hat hin hmo b hml hgl hw i hi x c)
  (fun x=>by
   obtain⟨v,x⟩:=x;simp only[aE];simp (maxSteps:=9^9) [bB.l0,qY,D2])
 cases c1:jE 1 b.gid 9999
 ·simp (maxSteps:=9^9) [bl,bB.m,bB.b,aa,h1,c1,fz]
 cases c2:mh b.name
 ·simp (maxSteps:=9^9) [bl,bB.m,bB.b,aa,h1,h2,c1,c2,fz]
 cases c3:j2 b.time b.eE
 ·simp (maxSteps:=9^9) [bl,bB.m,bB.b,aa,h1,h2,h3,c1,c2,c3,fz]
 cases c4:jE 1 b.next 10000
 ·simp (maxSteps:=9^9) [bl,bB.m,bB.b,aa,h1,h2,h3,h4,c1,c2,c3,c4,fz]
 by_cases c5:10<b.ae.length
 ·have c5':¬b.ae.length≤10:=by omega
  have ci:(10:Int)<b.ae.length:=by omega
  simp (maxSteps:=9^9) [bl,bB.m,bB.b,aa,h1,h2,h3,h4,c1,c2,c3,c4,c5',ci,fz]
 have c5':b.ae.length≤10:=by omega
 have ci:¬(10:Int)<b.ae.length:=by omega
 cases c6:kS b.gone 40
 ·simp (maxSteps:=9^9) [bl,bB.m,bB.b,aa,h1,h2,h3,h4,h5,c1,c2,c3,c4,ci,c6,fz]
 cases q:dW (mQ b) b.ae.length with
 |none=>
  simp[qY,D2,q,j7] at hr;simp (maxSteps:=9^9) [bl,bB.m,bB.b,aa,h1,h2,h3,h4,h5,c1,c2,c3,c4,c5',ci,c6,hr,fz,q]
 |some k=>
  simp[qY,q,j7] at hr;simp (maxSteps:=9^9) [bl,bB.m,bB.b,aa,h1,h2,h3,h4,h5,c1,c2,c3,c4,c5',ci,c6,hr,fz,q]
structure aT where
 eE:Int
 time:Int
 boxes:List bz
 gone:List Int
abbrev boxes(l:List bz):T:= .sl false 7 (l.map af)
abbrev ai(s:aT):List T:=[I s.eE,I s.time,boxes s.boxes,ints s.gone]
abbrev aW(s:aT):List T:=[I s.eE,I s.time,.sl true 7 (s.boxes.map af),.sl true 1 (az s.gone)]
def Bj{α:Type}(p:α→Bool)(l:List α)(i:Nat):Bool:=match l[i]? with
 |some x=>p x
 |none=>false
theorem nh{α:Type}{p:α→Bool}{l:List α}{i:Nat}(h:i<l.length):Bj p l i=p l[i]:=by simp[Bj,h]
theorem qq{α:Type}(p:α→Bool)(l:List α):∀d i,i+d=l.length→mM (Bj p l) d i=((l.drop i).findIdx? p).map (·+i)
 |0,i,h=>by rw[mM,dY (by omega)];rfl
 |d+1,i,h=>by
  have hi:i<l.length:=by omega
  rw[mM,nh hi,bA hi,List.findIdx?_cons];split
  ·simp
  ·rw[qq p l d (i+1) (by omega),Option.map_map];congr 1;funext x;simp only[Function.comp];omega
theorem ox{α:Type}(p:α→Bool)(l:List α):dW (Bj p l) l.length=l.findIdx? p:=by
 rw[dW,qq p l _ _ (by omega)];simp
theorem we{α:Type}(p:α→Bool)(l:List α):(dW (Bj p l) l.length).isSome=l.any p:=by
 rw[ox,List.findIdx?_isSome]
def named(l:List bz)(s:List UInt8):Option Nat:=l.findIdx? fun b=>decide (b.name=s)
def JT(st:aT)(s:List UInt8)(i:Nat)(x:Nat×Nat):St:={t:=[(1,.c (S s)),(2,.c (.ptr 2 x.1 0 0)),(5,.c (I i))],o:=[(2,⟨x.1,4,true,true,[ai st]⟩)],n:=x.2}
def A7{β:Type}(r:Nat)(e:Nat)(E:β→St)(q:Option Nat)(m:β×Nat):Out×St:=match q with
 |none=>(.exit e,E m.1)
 |some k=>(.ret,{t:=[(r,.c (I k))],o:=[],n:=m.2})
theorem vX{β γ:Type}(n:Nat)(p:Nat→Bool){f:St→Option (Out×St)}(S:Nat→β→St)(r:Nat)(e:Nat)(E:γ→St)(z:γ)
  (h1:∀i,i<n→∀x,p i=false→∃y,f (S i x)=some (.normal,S (i+1) y)) (h2:∀i,i<n→∀x,p i=true→∃k,f (S i x)=some (.ret,{t:=[(r,.c (I i))],o:=[],n:=k}))
  (h3:∀x,∃y,f (S n x)=some (.exit e,E y)):∃g:β→γ×Nat,∀x,eG f (n+1) (S 0 x)=some (A7 r e E (dW p n) (g x)):=
 lT n p S (A7 r e E) (fun q m=>by cases q<;>simp[A7]) h1 (fun i hi x c=>by
  obtain⟨k,hk⟩:=h2 i hi x c;exact⟨(z,k),hk⟩) (fun x=>by
  obtain⟨y,hy⟩:=h3 x;exact⟨(y,0),hy⟩)
def L6(st:aT)(s:List UInt8)(x:Nat×Nat):St:={t:=[(1,.c (S s)),(2,.c (.ptr 2 x.1 0 0)),(5,.c (I st.boxes.length)),(10,.c (.bool false))],o:=[(2,⟨x.1,4,true,true,[ai st]⟩)],n:=x.2}
theorem cz.ar(h:cz.k M)(st:aT)(s:List UInt8)(hb:st.boxes.length≤1048576):run M 226 [.a (ai st),.c (S s)] []=some (.c (I (dy (named st.boxes s))),[]):=by
 refine aB (b:=cz.m) h ⟨st.boxes.length+1, ?_⟩;obtain⟨g,hr⟩:=vX (f:=ct (run M) (st.boxes.length+1) cz.l0) st.boxes.length (Bj (fun b=>decide (b.name=s)) st.boxes) (JT st s) 4 0 (L6 st s) (0,0)
  (fun i hi x c=>by
   obtain⟨v,x⟩:=x;rw[nh hi,decide_eq_false_iff_not] at c;have e5:=cA (i:=i) (by omega);simp only[aE];simp (maxSteps:=9^9) [cz.l0,JT,hi,c,af,e5])
  (fun i hi x c=>by
   obtain⟨v,x⟩:=x;rw[nh hi,decide_eq_true_eq] at c;simp (maxSteps:=9^9) [cz.l0,JT,hi,c,af])
  (fun x=>by
   obtain⟨v,x⟩:=x;simp only[aE];simp (maxSteps:=9^9) [cz.l0,JT,L6])
 rw[ox] at hr;unfold named;cases hm:st.boxes.findIdx? fun b=>decide (b.name=s) with
 |none=>
  simp[JT,hm,A7,L6] at hr;simp (maxSteps:=9^9) [bl,cz.m,cz.b,aa,hr,dy]
 |some k=>
  simp[JT,hm,A7] at hr;simp (maxSteps:=9^9) [bl,cz.m,cz.b,aa,hr,dy]
theorem fc.ar(h:fc.k M)(b:bz)(s:List UInt8):run M 271 [.a (af b),.c (.vp [S s] 0)] []=some (.c (.bool (decide (b.name=s))),[]):=by
 refine aB (b:=fc.m) h ⟨0, ?_⟩;simp (maxSteps:=9^9) [bl,fc.m,fc.b,aa]
def CZ(l:List bz)(s:List UInt8)(i:Nat)(x:Nat):St:={t:=[(0,.c (boxes l)),(1,.c (.fn 271 [.vp [S s] 0])),(7,.c (I l.length)),(8,.c (I i))],o:=[],n:=x}
def I5(l:List bz)(s:List UInt8)(x:Nat):St:={t:=[(0,.c (boxes l)),(1,.c (.fn 271 [.vp [S s] 0])),(7,.c (I l.length)),(8,.c (I l.length)),(9,.c (.bool false))],o:=[],n:=x}
theorem dE.index(h:ay.k M)(h2:fc.k M)(l:List bz)(s:List UInt8)(hl:l.length≤1048576):
  run M 200 [.c (boxes l),.c (.fn 271 [.vp [S s] 0])] []=some (.c (I (dy (named l s))),[]):=by
 refine aB (b:=ay.m) h ⟨l.length+1, ?_⟩;obtain⟨g,hr⟩:=vX (f:=ct (run M) (l.length+1) ay.l0) l.length (Bj (fun b=>decide (b.name=s)) l) (CZ l s) 4 0 (I5 l s) 0
  (fun i hi x c=>by
   have hm:=fc.ar h2 l[i] s;rw[nh hi] at c;rw[c] at hm;simp only[af] at hm;have e5:=cA (i:=i) (by omega);simp (maxSteps:=9^9) [ay.l0,CZ,hi,hm,af,e5])
  (fun i hi x c=>by
   have hm:=fc.ar h2 l[i] s;rw[nh hi] at c;rw[c] at hm;simp only[af] at hm;simp (maxSteps:=9^9) [ay.l0,CZ,hi,hm,af])
  (fun x=>by simp (maxSteps:=9^9) [ay.l0,CZ,I5])
 rw[ox] at hr;unfold named;cases hm:l.findIdx? fun b=>decide (b.name=s) with
 |none=>
  simp[CZ,hm,A7,I5] at hr;simp (maxSteps:=9^9) [bl,ay.m,ay.b,aa,hr,dy]
 |some k=>
  simp[CZ,hm,A7] at hr;simp (maxSteps:=9^9) [bl,ay.m,ay.b,aa,hr,dy]
theorem dE.ar(h:dE.k M)(st:aT)(s:List UInt8)(hb:st.boxes.length≤1048576):run M 228 [.a (ai st),.c (S s)] []=some (.c (I (dy (named st.boxes s))),[]):=by
 have h1:=dE.index h.2.1 h.2.2 st.boxes s hb;refine aB (b:=dE.m) h.1 ⟨0, ?_⟩;simp (maxSteps:=9^9) [bl,dE.m,dE.b,aa,h1]
def sw(time:Int)(m:bo):Bool:=m.flags.any fun r=>decide (time<r.time)
def late(b:bz)(time:Int):Bool:=decide (time<b.time)||b.ae.any (sw time)
def JM(b:bz)(time:Int)(i:Nat)(x:Nat×Nat):St:={t:=[(1,.c (I time)),(2,.c (.ptr 2 x.1 0 0)),(10,.c (ae b.ae)),(11,.c (I b.ae.length)),(12,.c (I i))],o:=[(2,⟨x.1,7,true,true,[af b]⟩)],n:=x.2}
def LL(b:bz)(time:Int)(x:Nat×Nat):St:={t:=[(1,.c (I time)),(2,.c (.ptr 2 x.1 0 0)),(10,.c (ae b.ae)),(11,.c (I b.ae.length)),(12,.c (I b.ae.length)),(13,.c (.bool false))],o:=[(2,⟨x.1,7,true,true,[af b]⟩)],n:=x.2}
def AW(b:bz)(time:Int)(i:Nat)(l:List mi)(k:Nat)(x:Nat×Nat):St:={t:=[(1,.c (I time)),(2,.c (.ptr 2 x.1 0 0)),(10,.c (ae b.ae)),(11,.c (I b.ae.length)),(12,.c (I i)),(17,.c (iZ l)),(18,.c (I l.length)),(19,.c (I k))],o:=[(2,⟨x.1,7,true,true,[af b]⟩)],n:=x.2}
def GG(b:bz)(time:Int)(i:Nat)(l:List mi)(x:Nat×Nat):St:={t:=[(1,.c (I time)),(2,.c (.ptr 2 x.1 0 0)),(10,.c (ae b.ae)),(11,.c (I b.ae.length)),(12,.c (I i)),(17,.c (iZ l)),(18,.c (I l.length)),(19,.c (I l.length)),(20,.c (.bool false))],o:=[(2,⟨x.1,7,true,true,[af b]⟩)],n:=x.2}
theorem any_none{α:Type}{p:α→Bool}{l:List α}(h:l.any p=false):dW (Bj p l) l.length=none:=by
 have:=we p l;rw[h] at this;simpa using this
theorem any_some{α:Type}{p:α→Bool}{l:List α}(h:l.any p=true):∃k,dW (Bj p l) l.length=some k:=by
 have:=we p l;rw[h] at this;exact Option.isSome_iff_exists.1 this
theorem cN.inner(b:bz)(time:Int)(i K:Nat)(l:List mi)(hl:l.length≤1048576):∃g:Nat×Nat→(Nat×Nat)×Nat,∀x,eG (ct (run M) K cN.l1) (l.length+1) (AW b time i l 0 x)=some (j7 4 (.bool true) 2 (GG b time i l) (dW (Bj (fun r=>decide (time<r.time)) l) l.length) (g x)):=
 gV l.length (Bj (fun r=>decide (time<r.time)) l) (AW b time i l) 4 (.bool true) 2 (GG b time i l)
  (fun i hi x c=>by
   obtain⟨v,x⟩:=x;rw[nh hi,decide_eq_false_iff_not] at c;have e5:=cA (i:=i) (by omega);simp only[aE];simp (maxSteps:=9^9) [cN.l1,setAt,AW,hi,c,aR,e5])
  (fun i hi x c=>by
   obtain⟨v,x⟩:=x;rw[nh hi,decide_eq_true_eq] at c;simp (maxSteps:=9^9) [cN.l1,setAt,AW,hi,c,aR])
  (fun x=>by
   obtain⟨v,x⟩:=x;simp only[aE];simp (maxSteps:=9^9) [cN.l1,AW,GG])
theorem cN.ar(h:cN.k M)(b:bz)(time:Int)(hb:b.ae.length≤1048576)(hf:∀m∈b.ae,m.flags.length≤1048576):run M 229 [.a (af b),.c (I time)] []=some (.c (.bool (late b time)),[]):=by
 refine aB (b:=cN.m) h ⟨b.ae.length+1048577, ?_⟩;obtain⟨K,hK⟩:∃K,b.ae.length+1048577=K:=⟨_,rfl⟩
 rw[hK];obtain⟨g,hr⟩:=gV (f:=ct (run M) K cN.l0) b.ae.length (Bj (sw time) b.ae) (JM b time) 4 (.bool true) 0 (LL b time)
  (fun i hi x c=>by
   obtain⟨v,x⟩:=x;rw[nh hi,sw] at c;have e5:=cA (i:=i) (by omega);have hfl:=hf _ (ax hi);obtain⟨g,hr⟩:=cN.inner (M:=M) b time i K b.ae[i].flags hfl;rw[any_none c] at hr;have hr2:=fun x=>gd (hr x) (show b.ae[i].flags.length+1≤K by omega)
   simp[AW,GG,j7] at hr2;simp only[aE];simp (maxSteps:=9^9) [cN.l0,setAt,JM,hi,ah,e5,hr2])
  (fun i hi x c=>by
   obtain⟨v,x⟩:=x;rw[nh hi,sw] at c;have hfl:=hf _ (ax hi);obtain⟨g,hr⟩:=cN.inner (M:=M) b time i K b.ae[i].flags hfl;obtain⟨k,hk⟩:=any_some c;rw[hk] at hr;have hr2:=fun x=>gd (hr x) (show b.ae[i].flags.length+1≤K by omega)
   simp[AW,j7] at hr2;simp (maxSteps:=9^9) [cN.l0,setAt,JM,hi,ah,hr2])
  (fun x=>by
   obtain⟨v,x⟩:=x;simp only[aE];simp (maxSteps:=9^9) [cN.l0,JM,LL])
 have hr2:=fun x=>gd (hr x) (show b.ae.length+1≤K by omega)
 unfold late;cases c:b.ae.any (sw time)
 ·rw[any_none c] at hr2;simp[JM,LL,j7] at hr2;simp (maxSteps:=9^9) [bl,cN.m,cN.b,aa,hr2]
 ·obtain⟨k,hk⟩:=any_some c;rw[hk] at hr2;simp[JM,j7] at hr2;simp (maxSteps:=9^9) [bl,cN.m,cN.b,aa,hr2]
def CH(b:bz)(time:Int)(i:Nat)(x:Nat×Nat):St:={t:=[(1,.c (I time)),(2,.c (.ptr 2 x.1 0 0)),(5,.c (I i))],o:=[(2,⟨x.1,7,true,true,[af b]⟩)],n:=x.2}
def Iw(b:bz)(time:Int)(x:Nat×Nat):St:={t:=[(1,.c (I time)),(2,.c (.ptr 2 x.1 0 0)),(5,.c (I b.ae.length)),(16,.c (.bool false))],o:=[(2,⟨x.1,7,true,true,[af b]⟩)],n:=x.2}
def AF(b:bz)(time:Int)(i:Nat)(k:Nat)(x:Nat×Nat):St:={t:=[(1,.c (I time)),(2,.c (.ptr 2 x.1 0 0)),(5,.c (I i)),(6,.c (I k))],o:=[(2,⟨x.1,7,true,true,[af b]⟩)],n:=x.2}
def Gf(b:bz)(time:Int)(i:Nat)(k:Nat)(x:Nat×Nat):St:={t:=[(1,.c (I time)),(2,.c (.ptr 2 x.1 0 0)),(5,.c (I i)),(6,.c (I k)),(27,.c (.bool false))],o:=[(2,⟨x.1,7,true,true,[af b]⟩)],n:=x.2}
theorem bU.inner(b:bz)(time:Int)(i K:Nat)(hi:i<b.ae.length)(hl:b.ae[i].flags.length≤1048576):∃g:Nat×Nat→(Nat×Nat)×Nat,∀x,eG (ct (run M) K bU.l1) (b.ae[i].flags.length+1) (AF b time i 0 x)=some (j7 4 (.bool false) 2 (Gf b time i b.ae[i].flags.length) (dW (Bj (fun r=>decide (time<r.time)) b.ae[i].flags) b.ae[i].flags.length) (g x)):=
 gV b.ae[i].flags.length (Bj (fun r=>decide (time<r.time)) b.ae[i].flags) (AF b time i) 4 (.bool false) 2 (Gf b time i b.ae[i].flags.length)
  (fun k hk x c=>by
   obtain⟨v,x⟩:=x;rw[nh hk,decide_eq_false_iff_not] at c;have e5:=cA (i:=k) (by omega);simp only[aE];simp (maxSteps:=9^9) [bU.l1,AF,hi,hk,c,aR,ah,e5])
  (fun k hk x c=>by
   obtain⟨v,x⟩:=x;rw[nh hk,decide_eq_true_eq] at c;simp (maxSteps:=9^9) [bU.l1,AF,hi,hk,c,aR,ah])
  (fun x=>by
   obtain⟨v,x⟩:=x;simp only[aE];simp (maxSteps:=9^9) [bU.l1,AF,Gf,hi,ah])
theorem bU.ar(h:bU.k M)(b:bz)(time:Int)(hb:b.ae.length≤1048576)(hf:∀m∈b.ae,m.flags.length≤1048576):run M 227 [.a (af b),.c (I time)] []=some (.c (.bool (!late b time)),[]):=by
 refine aB (b:=bU.m) h ⟨b.ae.length+1048577, ?_⟩;obtain⟨K,hK⟩:∃K,b.ae.length+1048577=K:=⟨_,rfl⟩
 rw[hK];obtain⟨g,hr⟩:=gV (f:=ct (run M) K bU.l0) b.ae.length (Bj (sw time) b.ae) (CH b time) 4 (.bool false) 0 (Iw b time)
  (fun i hi x c=>by
   obtain⟨v,x⟩:=x;rw[nh hi,sw] at c;have e5:=cA (i:=i) (by omega);have hfl:=hf _ (ax hi);obtain⟨g,hr⟩:=bU.inner (M:=M) b time i K hi hfl;rw[any_none c] at hr;have hr2:=fun x=>gd (hr x) (show b.ae[i].flags.length+1≤K by omega)
   simp[AF,Gf,j7] at hr2;simp only[aE];simp (maxSteps:=9^9) [bU.l0,CH,hi,e5,hr2])
  (fun i hi x c=>by
   obtain⟨v,x⟩:=x;rw[nh hi,sw] at c;have hfl:=hf _ (ax hi);obtain⟨g,hr⟩:=bU.inner (M:=M) b time i K hi hfl;obtain⟨k,hk⟩:=any_some c;rw[hk] at hr;have hr2:=fun x=>gd (hr x) (show b.ae[i].flags.length+1≤K by omega)
   simp[AF,j7] at hr2;simp (maxSteps:=9^9) [bU.l0,CH,hi,hr2])
  (fun x=>by
   obtain⟨v,x⟩:=x;simp only[aE];simp (maxSteps:=9^9) [bU.l0,CH,Iw])
 have hr2:=fun x=>gd (hr x) (show b.ae.length+1≤K by omega)
 unfold late;by_cases c0:time<b.time
 ·simp (maxSteps:=9^9) [bl,bU.m,bU.b,aa,c0]
 cases c:b.ae.any (sw time)
 ·rw[any_none c] at hr2;simp[CH,Iw,j7] at hr2;simp (maxSteps:=9^9) [bl,bU.m,bU.b,aa,hr2,c0]
 ·obtain⟨k,hk⟩:=any_some c;rw[hk] at hr2;simp[CH,j7] at hr2;simp (maxSteps:=9^9) [bl,bU.m,bU.b,aa,hr2,c0]
def b5(b:bz):List Int:=b.ae.map (·.gid)
def seenAt(s:aT)(i:Nat):List Int:=(s.boxes.take i).flatMap b5
theorem oG{s:aT}{i:Nat}(h:i<s.boxes.length):seenAt s (i+1)=seenAt s i++b5 s.boxes[i]:=by
 rw[seenAt,seenAt,List.take_succ_eq_append_getElem h,List.flatMap_append];simp
def qt(seen l:List Int)(k:Nat):Bool:=match l[k]? with
 |some g=>decide (g∈seen++l.take k)
 |none=>false
theorem pb{seen l:List Int}{k:Nat}(h:k<l.length):qt seen l k=decide (l[k]∈seen++l.take k):=by simp[qt,h]
def tp(seen l:List Int):Bool:=(dW (qt seen l) l.length).isSome
def tG(s:aT)(i:Nat):Bool:=match s.boxes[i]? with
 |some b=> !fz b||(decide (0<i)&&match s.boxes[i-1]? with|some p=>decide (b.gid≤p.gid)|none=>false)|| !decide (dy (named s.boxes b.name)=(i:Int))||decide (b.gid∈s.gone)||late b s.time
 |none=>false
theorem nc{s:aT}{i:Nat}(h:i<s.boxes.length):tG s i=(!fz s.boxes[i]||(decide (0<i)&&decide (s.boxes[i].gid≤s.boxes[i-1].gid))|| !decide (dy (named s.boxes s.boxes[i].name)=(i:Int))||
  decide (s.boxes[i].gid∈s.gone)||late s.boxes[i] s.time):=by simp[tG,h,(show i-1<s.boxes.length by omega)]
def ph(s:aT)(i:Nat):Bool:=tG s i||match s.boxes[i]? with
 |some b=>tp (seenAt s i) (b5 b)
 |none=>false
theorem mR{s:aT}{i:Nat}(h:i<s.boxes.length):ph s i=(tG s i||tp (seenAt s i) (b5 s.boxes[i])):=by simp[ph,h]
def bc(s:aT):Bool:=jE 1 s.eE 2&&jE 0 s.time 100000&&decide (s.boxes.length≤5)&&kS s.gone 20&&(dW (ph s) s.boxes.length).isNone
structure gT (b:bz):Prop where
 m:b.ae.length≤1048576
 g:b.gone.length≤1048576
 n:b.name.length≤1048576
 f:∀m∈b.ae,m.flags.length≤1048576
structure g_ (s:aT):Prop where
 b:s.boxes.length≤1048576
 g:s.gone.length≤1048576
 i:∀b∈s.boxes,gT b
 s:(s.boxes.flatMap b5).length≤1048576
theorem qG{s:aT}(h:g_ s)(i:Nat):(seenAt s i).length≤1048576:=by
 refine Nat.le_trans ?_ h.s
 conv=>rhs;rw[←cX i s.boxes]
 rw[List.flatMap_append,aF];exact Nat.le_add_right _ _
def BJ(s:aT)(seen:List Int)(x:Nat×Nat×Nat):List (Nat×Ob):=[(1,⟨x.1,4,true,true,[ai s]⟩),(30,⟨x.2.1,1,true,false,az seen⟩)]
def yi(s:aT)(i:Nat)(x:Nat×Nat×Nat):St:={t:=[(1,.c (.ptr 1 x.1 0 0)),(3,.c (.row 30 x.2.1 0 (seenAt s i).length)),(32,.c (boxes s.boxes)),(33,.c (I s.boxes.length)),(34,.c (I i))],o:=BJ s (seenAt s i) x,n:=x.2.2}
def IA(s:aT)(x:Nat×Nat×Nat):St:={t:=[(1,.c (.ptr 1 x.1 0 0)),(3,.c (.row 30 x.2.1 0 (seenAt s s.boxes.length).length)),(32,.c (boxes s.boxes)),(33,.c (I s.boxes.length)),(34,.c (I s.boxes.length)),(35,.c (.bool false))],o:=BJ s (seenAt s s.boxes.length) x,n:=x.2.2}
def AN(s:aT)(b:bz)(seen:List Int)(i k:Nat)(x:Nat×Nat×Nat):St:={t:=[(1,.c (.ptr 1 x.1 0 0)),(3,.c (.row 30 x.2.1 0 (seen.length+k))),(32,.c (boxes s.boxes)),(33,.c (I s.boxes.length)),(34,.c (I i)),(80,.c (ae b.ae)),(81,.c (I b.ae.length)),(82,.c (I k))],o:=BJ s (seen++(b5 b).take k) x,n:=x.2.2}
def Gi(s:aT)(b:bz)(seen:List Int)(i:Nat)(x:Nat×Nat×Nat):St:={t:=[(1,.c (.ptr 1 x.1 0 0)),(3,.c (.row 30 x.2.1 0 (seen.length+b.ae.length))),(32,.c (boxes s.boxes)),(33,.c (I s.boxes.length)),(34,.c (I i)),(80,.c (ae b.ae)),(81,.c (I b.ae.length)),(82,.c (I b.ae.length)),(83,.c (.bool false))],o:=BJ s (seen++b5 b) x,n:=x.2.2}
theorem i_(b:bz):(b5 b).length=b.ae.length:=by simp[b5]
theorem oa(b:bz)(k:Nat)(h:k<(b5 b).length):(b5 b)[k]=(b.ae[k]'(by simpa [b5] using h)).gid:=by simp[b5]
theorem aJ.inner(hin:aH.k M)(s:aT)(b:bz)(seen:List Int)(i K:Nat)(hl:b.ae.length≤1048576)(hs:seen.length≤1048576):
  ∃g:Nat×Nat×Nat→(Nat×Nat×Nat)×Nat,∀x,eG (ct (run M) K aJ.l1) (b.ae.length+1) (AN s b seen i 0 x)=some (j7 2 (.bool false) 2 (Gi s b seen i) (dW (qt seen (b5 b)) b.ae.length) (g x)):=
 gV b.ae.length (qt seen (b5 b)) (AN s b seen i) 2 (.bool false) 2 (Gi s b seen i)
  (fun k hk x c=>by
   obtain⟨v,w,x⟩:=x;have hk':k<(b5 b).length:=by rw[i_];exact hk
   rw[pb hk'] at c;have hlen:(seen++(b5 b).take k).length=seen.length+k:=by rw[aF,hZ,Nat.min_eq_left (by omega)]
   have h1:=aH.ar hin (seen++(b5 b).take k) (b5 b)[k] (by rw[hlen];omega);rw[c] at h1;rw[oa] at h1;simp only[ints] at h1;have e5:=cA (i:=k) (by omega);have e6:seen.length+(k+1)≤4294967296:=by omega
   have e7:seen++(b5 b).take (k+1)=(seen++(b5 b).take k)++[b.ae[k].gid]:=by rw[List.take_succ_eq_append_getElem hk',oa,cP]
   have e8:az ((seen++(b5 b).take k)++[b.ae[k].gid])=az (seen++(b5 b).take k)++[[I b.ae[k].gid]]:=by simp[az]
   have e9:(az (seen++(b5 b).take k)).length=seen.length+k:=by simp only[az,fP];exact hlen
   simp only[aE,AN,BJ,e7,e8];generalize az (seen++(b5 b).take k)=rr at*;simp (maxSteps:=9^9) [aJ.l1,setAt,hk,h1,ah,e5,e6,e9,ab,Nat.add_assoc])
  (fun k hk x c=>by
   obtain⟨v,w,x⟩:=x;have hk':k<(b5 b).length:=by rw[i_];exact hk
   rw[pb hk'] at c;have hlen:(seen++(b5 b).take k).length=seen.length+k:=by rw[aF,hZ,Nat.min_eq_left (by omega)]
   have h1:=aH.ar hin (seen++(b5 b).take k) (b5 b)[k] (by rw[hlen];omega);rw[c] at h1;rw[oa] at h1;simp only[ints] at h1;have e9:(az (seen++(b5 b).take k)).length=seen.length+k:=by simp only[az,fP];exact hlen
   simp only[AN,BJ];generalize az (seen++(b5 b).take k)=rr at*;simp (maxSteps:=9^9) [aJ.l1,setAt,hk,h1,ah,e9,ab])
  (fun x=>by
   obtain⟨v,w,x⟩:=x;have e7:(b5 b).take b.ae.length=b5 b:=ab (by rw[i_];omega);simp only[aE,AN,Gi,BJ,e7];simp (maxSteps:=9^9) [aJ.l1])
theorem gT.ok{b:bz}(h:gT b):b.ae.length≤1048576∧b.gone.length≤4611686018427387904∧b.name.length≤4611686018427387904∧∀m∈b.ae,m.flags.length≤1048576:=⟨h.m,by have:=h.g;omega,by have:=h.n;omega,h.f⟩
structure aJ.ks (M:Nat→Option Body):Prop where
 box:bG.k M
 Hs:aH.k M
 J9:dE.k M
 Kh:cN.k M
theorem aJ.lf(h:aJ.ks M)(s:aT)(hs:g_ s)(K:Nat)(hK:2000000≤K)(i:Nat)(hi:i<s.boxes.length)(x:Nat×Nat×Nat)(c:ph s i=false):
  ∃y,ct (run M) K aJ.l0 (yi s i x)=some (.normal,yi s (i+1) y):=by
 have hb:=hs.i _ (ax hi);have h1:=bG.ar h.box s.boxes[i] hb.ok.1 hb.ok.2.1 hb.ok.2.2.1 hb.ok.2.2.2;have h2:=dE.ar h.J9 s s.boxes[i].name hs.b;have h3:=aH.ar h.Hs s.gone s.boxes[i].gid (by have:=hs.g;omega);have h4:=cN.ar h.Kh s.boxes[i] s.time hb.m hb.f;have hsl:=qG hs i;obtain⟨g,hr⟩:=aJ.inner h.Hs s s.boxes[i] (seenAt s i) i K hb.m hsl;have hr2:=fun x=>gd (hr x) (show s.boxes[i].ae.length+1≤K by have:=hb.m;omega)
 rw[mR hi,nc hi] at c;simp only[fG,Bool.and_eq_false_iff,Bool.not_eq_false',decide_eq_false_iff_not,decide_eq_true_eq] at c;obtain⟨⟨⟨⟨⟨c1,c2⟩,c3⟩,c4⟩,c5⟩,c6⟩:=c;have e5:IntKind.i64.wrap ((i:Int)+1)=(i:Int)+1:=wrap_i64 (by have:=hs.b;omega) (by have:=hs.b;omega);rw[c1] at h1;rw[c3] at h2;rw[decide_eq_false c4] at h3;rw[c5] at h4;have q:dW (qt (seenAt s i) (b5 s.boxes[i])) s.boxes[i].ae.length=none:=by
  unfold tp at c6;rw[i_] at c6;simpa using c6
 rw[q] at hr2;obtain⟨v,w,x⟩:=x;simp only[af,ai] at h1 h2 h4;simp only[ints] at h3;have hz:az (seenAt s i++b5 s.boxes[i])=az (seenAt s i)++az (b5 s.boxes[i]):=by simp[az]
 simp[AN,Gi,BJ,j7] at hr2;simp only[yi,BJ,oG hi,aE];have hgl:=i_ s.boxes[i];by_cases c7:0<i
 ·have e6:IntKind.i64.wrap ((i:Int)-1)=((i-1:Nat):Int):=by rw[wrap_i64 (by have:=hs.b;omega) (by have:=hs.b;omega)];omega
  have c2':¬s.boxes[i].gid≤s.boxes[i-1].gid:=by
   rcases c2 with c2|c2
   ·exact absurd c7 c2
   ·exact c2
  simp (maxSteps:=9^9) [aJ.l0,aa,setAt,hi,h1,h2,h3,h4,c7,c2',e5,e6,hr2,hgl,af,(show i-1<s.boxes.length by omega)]
 ·simp (maxSteps:=9^9) [aJ.l0,aa,setAt,hi,h1,h2,h3,h4,c7,e5,hr2,hgl,af]
theorem aJ.bad(h:aJ.ks M)(s:aT)(hs:g_ s)(K:Nat)(hK:2000000≤K)(i:Nat)(hi:i<s.boxes.length)(x:Nat×Nat×Nat)(c:ph s i=true):
  ∃k,ct (run M) K aJ.l0 (yi s i x)=some (.ret,{t:=[(2,.c (.bool false))],o:=[],n:=k}):=by
 have hb:=hs.i _ (ax hi);have h1:=bG.ar h.box s.boxes[i] hb.ok.1 hb.ok.2.1 hb.ok.2.2.1 hb.ok.2.2.2;have h2:=dE.ar h.J9 s s.boxes[i].name hs.b;have h3:=aH.ar h.Hs s.gone s.boxes[i].gid (by have:=hs.g;omega);have h4:=cN.ar h.Kh s.boxes[i] s.time hb.m hb.f;have hsl:=qG hs i;obtain⟨g,hr⟩:=aJ.inner h.Hs s s.boxes[i] (seenAt s i) i K hb.m hsl;have hr2:=fun x=>gd (hr x) (show s.boxes[i].ae.length+1≤K by have:=hb.m;omega)
 rw[mR hi,nc hi] at c;obtain⟨v,w,x⟩:=x;simp only[af,ai] at h1 h2 h4;simp only[ints] at h3;simp only[yi,BJ];cases c1:fz s.boxes[i]
 ·rw[c1] at h1;simp (maxSteps:=9^9) [aJ.l0,aa,setAt,hi,h1,af]
 rw[c1] at h1;have tail:∀(hp:¬0<i∨¬s.boxes[i].gid≤s.boxes[i-1].gid),∃k,ct (run M) K aJ.l0 {t:=[(1,.c (.ptr 1 v 0 0)),(3,.c (.row 30 w 0 (seenAt s i).length)),(32,.c (boxes s.boxes)),(33,.c (I s.boxes.length)),(34,.c (I i))],o:=[(1,⟨v,4,true,true,[ai s]⟩),(30,⟨w,1,true,false,az (seenAt s i)⟩)],n:=x}=some (.ret,{t:=[(2,.c (.bool false))],o:=[],n:=k}):=by
  intro hp;have hpp:(decide (0<i)&&decide (s.boxes[i].gid≤s.boxes[i-1].gid))=false:=by
   rcases hp with hp|hp<;>simp[hp]
  have key:(∀(Q:Prop),(0<i→¬s.boxes[i].gid≤s.boxes[i-1].gid→Q)→(¬0<i→Q)→Q):=by
   intro Q q1 q2;by_cases c7:0<i
   ·rcases hp with hp|hp
    ·exact absurd c7 hp
    ·exact q1 c7 hp
   ·exact q2 c7
  have e6:0<i→IntKind.i64.wrap ((i:Int)-1)=((i-1:Nat):Int):=fun c7=>by rw[wrap_i64 (by have:=hs.b;omega) (by have:=hs.b;omega)];omega
  have hi1:i-1<s.boxes.length:=by omega
  by_cases c3:dy (named s.boxes s.boxes[i].name)=(i:Int);rotate_left
  ·exact key _ (fun c7 c2=>by simp (maxSteps:=9^9) [aJ.l0,aa,setAt,hi,h1,h2,c7,c2,c3,e6 c7,af,hi1]) (fun c7=>by simp (maxSteps:=9^9) [aJ.l0,aa,setAt,hi,h1,h2,c7,c3,af])
  rw[c3] at h2;by_cases c4:s.boxes[i].gid∈s.gone
  ·rw[decide_eq_true c4] at h3;exact key _ (fun c7 c2=>by simp (maxSteps:=9^9) [aJ.l0,aa,setAt,hi,h1,h2,h3,c7,c2,e6 c7,af,hi1]) (fun c7=>by simp (maxSteps:=9^9) [aJ.l0,aa,setAt,hi,h1,h2,h3,c7,af])
  rw[decide_eq_false c4] at h3;cases c5:late s.boxes[i] s.time;rotate_left
  ·rw[c5] at h4;exact key _ (fun c7 c2=>by simp (maxSteps:=9^9) [aJ.l0,aa,setAt,hi,h1,h2,h3,h4,c7,c2,e6 c7,af,hi1]) (fun c7=>by simp (maxSteps:=9^9) [aJ.l0,aa,setAt,hi,h1,h2,h3,h4,c7,af])
  rw[c5] at h4;have c6:tp (seenAt s i) (b5 s.boxes[i])=true:=by
   rw[c1,hpp,c3,c5] at c;simpa [c4] using c
  obtain⟨k,hk⟩:∃k,dW (qt (seenAt s i) (b5 s.boxes[i])) s.boxes[i].ae.length=some k:=by
   unfold tp at c6;rw[i_] at c6;exact Option.isSome_iff_exists.1 c6
  rw[hk] at hr2;simp[AN,BJ,j7] at hr2;have hgl:=i_ s.boxes[i];exact key _ (fun c7 c2=>by simp (maxSteps:=9^9) [aJ.l0,aa,setAt,hi,h1,h2,h3,h4,c7,c2,e6 c7,hr2,af,hi1]) (fun c7=>by simp (maxSteps:=9^9) [aJ.l0,aa,setAt,hi,h1,h2,h3,h4,c7,hr2,af])
 by_cases c7:0<i
 ·by_cases c2:s.boxes[i].gid≤s.boxes[i-1].gid
  ·have e6:IntKind.i64.wrap ((i:Int)-1)=((i-1:Nat):Int):=by rw[wrap_i64 (by have:=hs.b;omega) (by have:=hs.b;omega)];omega
   simp (maxSteps:=9^9) [aJ.l0,aa,setAt,hi,h1,c7,c2,e6,af,(show i-1<s.boxes.length by omega)]
  ·exact tail (.inr c2)
 ·exact tail (.inl c7)
theorem aJ.ar(h:aJ.k M)(s:aT)(hs:g_ s):run M 150 [.a (ai s)] []=some (.c (.bool (bc s)),[]):=by
 obtain⟨h0,k1,k2,k3,k4,k5,k6⟩:=h;have h1:=b_.jE k2 s.eE 1 2;have h2:=b_.jE k2 s.time 0 100000;have h3:=da.ar k4 s.gone 20 (by have:=hs.g;omega);refine aB (b:=aJ.m) h0 ⟨4000000, ?_⟩;obtain⟨K,hK⟩:∃K,4000000=K:=⟨_,rfl⟩
 rw[hK];obtain⟨g,hr⟩:=gV (f:=ct (run M) K aJ.l0) s.boxes.length (ph s) (yi s) 2 (.bool false) 0 (IA s)
  (fun i hi x c=>aJ.lf ⟨k1,k3,k5,k6⟩ s hs K (by omega) i hi x c)
  (fun i hi x c=>aJ.bad ⟨k1,k3,k5,k6⟩ s hs K (by omega) i hi x c)
  (fun x=>by
   obtain⟨v,w,x⟩:=x;simp only[aE];simp (maxSteps:=9^9) [aJ.l0,aa,yi,IA,BJ])
 have hr2:=fun x=>gd (hr x) (show s.boxes.length+1≤K by have:=hs.b;omega)
 cases c1:jE 1 s.eE 2
 ·simp (maxSteps:=9^9) [bl,aJ.m,aJ.b,aa,h1,c1,bc]
 cases c2:jE 0 s.time 100000
 ·simp (maxSteps:=9^9) [bl,aJ.m,aJ.b,aa,h1,h2,c1,c2,bc]
 by_cases c3:5<s.boxes.length
 ·have c3':¬s.boxes.length≤5:=by omega
  have ci:(5:Int)<s.boxes.length:=by omega
  simp (maxSteps:=9^9) [bl,aJ.m,aJ.b,aa,h1,h2,c1,c2,c3',ci,bc]
 have c3':s.boxes.length≤5:=by omega
 have ci:¬(5:Int)<s.boxes.length:=by omega
 cases c4:kS s.gone 20
 ·simp (maxSteps:=9^9) [bl,aJ.m,aJ.b,aa,h1,h2,h3,c1,c2,ci,c4,bc]
 have hz:seenAt s 0=[]:=by simp[seenAt]
 cases q:dW (ph s) s.boxes.length with
 |none=>
  simp[yi,IA,BJ,q,j7,hz,az] at hr2;simp (maxSteps:=9^9) [bl,aJ.m,aJ.b,aa,h1,h2,h3,c1,c2,c3',ci,c4,hr2,bc,q]
 |some k=>
  simp[yi,BJ,q,j7,hz,az] at hr2;simp (maxSteps:=9^9) [bl,aJ.m,aJ.b,aa,h1,h2,h3,c1,c2,c3',ci,c4,hr2,bc,q]
def Iy(s:aT)(seen:List Int)(x:Nat×Nat×Nat):List (Nat×Ob):=[(1,⟨x.1,4,true,true,[ai s]⟩),(29,⟨x.2.1,1,true,false,az seen⟩)]
def yh(s:aT)(i:Nat)(x:Nat×Nat×Nat):St:={t:=[(1,.c (.ptr 1 x.1 0 0)),(3,.c (.row 29 x.2.1 0 (seenAt s i).length)),(4,.c (I i))],o:=Iy s (seenAt s i) x,n:=x.2.2}
def Iz(s:aT)(x:Nat×Nat×Nat):St:={t:=[(1,.c (.ptr 1 x.1 0 0)),(3,.c (.row 29 x.2.1 0 (seenAt s s.boxes.length).length)),(4,.c (I s.boxes.length)),(34,.c (.bool false))],o:=Iy s (seenAt s s.boxes.length) x,n:=x.2.2}
def AJ(s:aT)(b:bz)(seen:List Int)(x:Nat×Nat×Nat×Nat):List (Nat×Ob):=[(1,⟨x.1,4,true,true,[ai s]⟩),(5,⟨x.2.2.1,7,true,true,[af b]⟩),(29,⟨x.2.1,1,true,false,az seen⟩)]
def AI(s:aT)(b:bz)(seen:List Int)(i k:Nat)(x:Nat×Nat×Nat×Nat):St:={t:=[(1,.c (.ptr 1 x.1 0 0)),(3,.c (.row 29 x.2.1 0 (seen.length+k))),(4,.c (I i)),(5,.c (.ptr 5 x.2.2.1 0 0)),(6,.c (I k))],o:=AJ s b (seen++(b5 b).take k) x,n:=x.2.2.2}
def Gh(s:aT)(b:bz)(seen:List Int)(i:Nat)(x:Nat×Nat×Nat×Nat):St:={t:=[(1,.c (.ptr 1 x.1 0 0)),(3,.c (.row 29 x.2.1 0 (seen.length+b.ae.length))),(4,.c (I i)),(5,.c (.ptr 5 x.2.2.1 0 0)),(6,.c (I b.ae.length)),(87,.c (.bool false))],o:=AJ s b (seen++b5 b) x,n:=x.2.2.2}
theorem aI.inner(hin:bf.k M)(s:aT)(b:bz)(seen:List Int)(i K:Nat)(hl:b.ae.length≤1048576)(hs:seen.length≤1048576):
  ∃g:Nat×Nat×Nat×Nat→(Nat×Nat×Nat×Nat)×Nat,∀x,eG (ct (run M) K aI.l1) (b.ae.length+1) (AI s b seen i 0 x)=some (j7 2 (.bool false) 2 (Gh s b seen i) (dW (qt seen (b5 b)) b.ae.length) (g x)):=
 gV b.ae.length (qt seen (b5 b)) (AI s b seen i) 2 (.bool false) 2 (Gh s b seen i)
  (fun k hk x c=>by
   obtain⟨v,w,z,x⟩:=x;have hk':k<(b5 b).length:=by rw[i_];exact hk
   rw[pb hk'] at c;have hlen:(seen++(b5 b).take k).length=seen.length+k:=by rw[aF,hZ,Nat.min_eq_left (by omega)]
   have h1:=bf.ar hin (seen++(b5 b).take k) (b5 b)[k] (by rw[hlen];omega);rw[c] at h1;rw[oa] at h1;simp only[ints] at h1;have e5:=cA (i:=k) (by omega);have e6:seen.length+(k+1)≤4294967296:=by omega
   have e7:seen++(b5 b).take (k+1)=(seen++(b5 b).take k)++[b.ae[k].gid]:=by rw[List.take_succ_eq_append_getElem hk',oa,cP]
   have e8:az ((seen++(b5 b).take k)++[b.ae[k].gid])=az (seen++(b5 b).take k)++[[I b.ae[k].gid]]:=by simp[az]
   have e9:(az (seen++(b5 b).take k)).length=seen.length+k:=by simp only[az,fP];exact hlen
   simp only[aE,AI,AJ,e7,e8];generalize az (seen++(b5 b).take k)=rr at*;simp (maxSteps:=9^9) [aI.l1,hk,h1,ah,e5,e6,e9,ab,Nat.add_assoc];exact⟨_,_,_,⟨rfl,rfl,rfl⟩,rfl,rfl,rfl⟩)
  (fun k hk x c=>by
   obtain⟨v,w,z,x⟩:=x;have hk':k<(b5 b).length:=by rw[i_];exact hk
   rw[pb hk'] at c;have hlen:(seen++(b5 b).take k).length=seen.length+k:=by rw[aF,hZ,Nat.min_eq_left (by omega)]
   have h1:=bf.ar hin (seen++(b5 b).take k) (b5 b)[k] (by rw[hlen];omega);rw[c] at h1;rw[oa] at h1;simp only[ints] at h1;have e9:(az (seen++(b5 b).take k)).length=seen.length+k:=by simp only[az,fP];exact hlen
   simp only[AI,AJ];generalize az (seen++(b5 b).take k)=rr at*;simp (maxSteps:=9^9) [aI.l1,hk,h1,ah,e9,ab])
  (fun x=>by
   obtain⟨v,w,z,x⟩:=x;have e7:(b5 b).take b.ae.length=b5 b:=ab (by rw[i_];omega);simp only[aE,AI,Gh,AJ,e7];simp (maxSteps:=9^9) [aI.l1];exact⟨_,_,_,⟨rfl,rfl,rfl⟩,rfl,rfl,rfl⟩)
structure aI.ks (M:Nat→Option Body):Prop where
 box:bB.k M
 Hs:bf.k M
 J9:cz.k M
 Kh:bU.k M
theorem aI.lf(h:aI.ks M)(s:aT)(hs:g_ s)(K:Nat)(hK:2000000≤K)(i:Nat)(hi:i<s.boxes.length)(x:Nat×Nat×Nat)(c:ph s i=false):
  ∃y,ct (run M) K aI.l0 (yh s i x)=some (.normal,yh s (i+1) y):=by
 have hb:=hs.i _ (ax hi);have h1:=bB.ar h.box s.boxes[i] hb.ok.1 hb.ok.2.1 hb.ok.2.2.1 hb.ok.2.2.2;have h2:=cz.ar h.J9 s s.boxes[i].name hs.b;have h3:=bf.ar h.Hs s.gone s.boxes[i].gid (by have:=hs.g;omega);have h4:=bU.ar h.Kh s.boxes[i] s.time hb.m hb.f;have hsl:=qG hs i;obtain⟨g,hr⟩:=aI.inner h.Hs s s.boxes[i] (seenAt s i) i K hb.m hsl;have hr2:=fun x=>gd (hr x) (show s.boxes[i].ae.length+1≤K by have:=hb.m;omega)
 rw[mR hi,nc hi] at c;simp only[fG,Bool.and_eq_false_iff,Bool.not_eq_false',decide_eq_false_iff_not,decide_eq_true_eq] at c;obtain⟨⟨⟨⟨⟨c1,c2⟩,c3⟩,c4⟩,c5⟩,c6⟩:=c;have e5:IntKind.i64.wrap ((i:Int)+1)=(i:Int)+1:=wrap_i64 (by have:=hs.b;omega) (by have:=hs.b;omega);rw[c1] at h1;rw[c3] at h2;rw[decide_eq_false c4] at h3;rw[c5] at h4;have q:dW (qt (seenAt s i) (b5 s.boxes[i])) s.boxes[i].ae.length=none:=by
  unfold tp at c6;rw[i_] at c6;simpa using c6
 rw[q] at hr2;obtain⟨v,w,x⟩:=x;simp only[af,ai] at h1 h2 h4;simp only[ints] at h3;have hz:az (seenAt s i++b5 s.boxes[i])=az (seenAt s i)++az (b5 s.boxes[i]):=by simp[az]
 simp[AI,Gh,AJ,j7] at hr2;simp only[yh,Iy,oG hi,aE];have hgl:=i_ s.boxes[i];by_cases c7:0<i
 ·have e6:IntKind.i64.wrap ((i:Int)-1)=((i-1:Nat):Int):=by rw[wrap_i64 (by have:=hs.b;omega) (by have:=hs.b;omega)];omega
  have c2':¬s.boxes[i].gid≤s.boxes[i-1].gid:=by
   rcases c2 with c2|c2
   ·exact absurd c7 c2
   ·exact c2
  simp (maxSteps:=9^9) [aI.l0,aa,setAt,hi,h1,h2,h3,h4,c7,c2',e5,e6,hr2,hgl,af,(show i-1<s.boxes.length by omega)]
 ·simp (maxSteps:=9^9) [aI.l0,aa,setAt,hi,h1,h2,h3,h4,c7,e5,hr2,hgl,af]
theorem aI.bad(h:aI.ks M)(s:aT)(hs:g_ s)(K:Nat)(hK:2000000≤K)(i:Nat)(hi:i<s.boxes.length)(x:Nat×Nat×Nat)(c:ph s i=true):
  ∃k,ct (run M) K aI.l0 (yh s i x)=some (.ret,{t:=[(2,.c (.bool false))],o:=[],n:=k}):=by
 have hb:=hs.i _ (ax hi);have h1:=bB.ar h.box s.boxes[i] hb.ok.1 hb.ok.2.1 hb.ok.2.2.1 hb.ok.2.2.2;have h2:=cz.ar h.J9 s s.boxes[i].name hs.b;have h3:=bf.ar h.Hs s.gone s.boxes[i].gid (by have:=hs.g;omega);have h4:=bU.ar h.Kh s.boxes[i] s.time hb.m hb.f;have hsl:=qG hs i;obtain⟨g,hr⟩:=aI.inner h.Hs s s.boxes[i] (seenAt s i) i K hb.m hsl;have hr2:=fun x=>gd (hr x) (show s.boxes[i].ae.length+1≤K by have:=hb.m;omega)
 rw[mR hi,nc hi] at c;obtain⟨v,w,x⟩:=x;simp only[af,ai] at h1 h2 h4;simp only[ints] at h3;simp only[yh,Iy];cases c1:fz s.boxes[i]
 ·rw[c1] at h1;simp (maxSteps:=9^9) [aI.l0,aa,setAt,hi,h1,af]
 rw[c1] at h1;have tail:∀(hp:¬0<i∨¬s.boxes[i].gid≤s.boxes[i-1].gid),∃k,ct (run M) K aI.l0 {t:=[(1,.c (.ptr 1 v 0 0)),(3,.c (.row 29 w 0 (seenAt s i).length)),(4,.c (I i))],o:=[(1,⟨v,4,true,true,[ai s]⟩),(29,⟨w,1,true,false,az (seenAt s i)⟩)],n:=x}=some (.ret,{t:=[(2,.c (.bool false))],o:=[],n:=k}):=by
  intro hp;have hpp:(decide (0<i)&&decide (s.boxes[i].gid≤s.boxes[i-1].gid))=false:=by
   rcases hp with hp|hp<;>simp[hp]
  have key:(∀(Q:Prop),(0<i→¬s.boxes[i].gid≤s.boxes[i-1].gid→Q)→(¬0<i→Q)→Q):=by
   intro Q q1 q2;by_cases c7:0<i
   ·rcases hp with hp|hp
    ·exact absurd c7 hp
    ·exact q1 c7 hp
   ·exact q2 c7
  have e6:0<i→IntKind.i64.wrap ((i:Int)-1)=((i-1:Nat):Int):=fun c7=>by rw[wrap_i64 (by have:=hs.b;omega) (by have:=hs.b;omega)];omega
  have hi1:i-1<s.boxes.length:=by omega
  by_cases c3:dy (named s.boxes s.boxes[i].name)=(i:Int);rotate_left
  ·exact key _ (fun c7 c2=>by simp (maxSteps:=9^9) [aI.l0,aa,setAt,hi,h1,h2,c7,c2,c3,e6 c7,af,hi1]) (fun c7=>by simp (maxSteps:=9^9) [aI.l0,aa,setAt,hi,h1,h2,c7,c3,af])
  rw[c3] at h2;by_cases c4:s.boxes[i].gid∈s.gone
  ·rw[decide_eq_true c4] at h3;exact key _ (fun c7 c2=>by simp (maxSteps:=9^9) [aI.l0,aa,setAt,hi,h1,h2,h3,c7,c2,e6 c7,af,hi1]) (fun c7=>by simp (maxSteps:=9^9) [aI.l0,aa,setAt,hi,h1,h2,h3,c7,af])
  rw[decide_eq_false c4] at h3;cases c5:late s.boxes[i] s.time;rotate_left
  ·rw[c5] at h4;exact key _ (fun c7 c2=>by simp (maxSteps:=9^9) [aI.l0,aa,setAt,hi,h1,h2,h3,h4,c7,c2,e6 c7,af,hi1]) (fun c7=>by simp (maxSteps:=9^9) [aI.l0,aa,setAt,hi,h1,h2,h3,h4,c7,af])
  rw[c5] at h4;have c6:tp (seenAt s i) (b5 s.boxes[i])=true:=by
   rw[c1,hpp,c3,c5] at c;simpa [c4] using c
  obtain⟨k,hk⟩:∃k,dW (qt (seenAt s i) (b5 s.boxes[i])) s.boxes[i].ae.length=some k:=by
   unfold tp at c6;rw[i_] at c6;exact Option.isSome_iff_exists.1 c6
  rw[hk] at hr2;simp[AI,AJ,j7] at hr2;have hgl:=i_ s.boxes[i];exact key _ (fun c7 c2=>by simp (maxSteps:=9^9) [aI.l0,aa,setAt,hi,h1,h2,h3,h4,c7,c2,e6 c7,hr2,af,hi1]) (fun c7=>by simp (maxSteps:=9^9) [aI.l0,aa,setAt,hi,h1,h2,h3,h4,c7,hr2,af])
 by_cases c7:0<i
 ·by_cases c2:s.boxes[i].gid≤s.boxes[i-1].gid
  ·have e6:IntKind.i64.wrap ((i:Int)-1)=((i-1:Nat):Int):=by rw[wrap_i64 (by have:=hs.b;omega) (by have:=hs.b;omega)];omega
   simp (maxSteps:=9^9) [aI.l0,aa,setAt,hi,h1,c7,c2,e6,af,(show i-1<s.boxes.length by omega)]
  ·exact tail (.inr c2)
 ·exact tail (.inl c7)
theorem aI.ar(h:aI.k M)(s:aT)(hs:g_ s):run M 149 [.a (ai s)] []=some (.c (.bool (bc s)),[]):=by
 obtain⟨h0,k1,k2,k3,k4,k5,k6⟩:=h;have h1:=bS.jE k2 s.eE 1 2;have h2:=bS.jE k2 s.time 0 100000;have h3:=cu.ar k4 s.gone 20 (by have:=hs.g;omega);refine aB (b:=aI.m) h0 ⟨4000000, ?_⟩;obtain⟨K,hK⟩:∃K,4000000=K:=⟨_,rfl⟩
 rw[hK];obtain⟨g,hr⟩:=gV (f:=ct (run M) K aI.l0) s.boxes.length (ph s) (yh s) 2 (.bool false) 0 (Iz s)
  (fun i hi x c=>aI.lf ⟨k1,k3,k5,k6⟩ s hs K (by omega) i hi x c)
  (fun i hi x c=>aI.bad ⟨k1,k3,k5,k6⟩ s hs K (by omega) i hi x c)
  (fun x=>by
   obtain⟨v,w,x⟩:=x;simp only[aE];simp (maxSteps:=9^9) [aI.l0,aa,yh,Iz,Iy])
 have hr2:=fun x=>gd (hr x) (show s.boxes.length+1≤K by have:=hs.b;omega)
 cases c1:jE 1 s.eE 2
 ·simp (maxSteps:=9^9) [bl,aI.m,aI.b,aa,h1,c1,bc]
 cases c2:jE 0 s.time 100000
 ·simp (maxSteps:=9^9) [bl,aI.m,aI.b,aa,h1,h2,c1,c2,bc]
 by_cases c3:5<s.boxes.length
 ·have c3':¬s.boxes.length≤5:=by omega
  have ci:(5:Int)<s.boxes.length:=by omega
  simp (maxSteps:=9^9) [bl,aI.m,aI.b,aa,h1,h2,c1,c2,c3',ci,bc]
 have c3':s.boxes.length≤5:=by omega
 have ci:¬(5:Int)<s.boxes.length:=by omega
 cases c4:kS s.gone 20
 ·simp (maxSteps:=9^9) [bl,aI.m,aI.b,aa,h1,h2,h3,c1,c2,ci,c4,bc]
 have hz:seenAt s 0=[]:=by simp[seenAt]
 cases q:dW (ph s) s.boxes.length with
 |none=>
  simp[yh,Iz,Iy,q,j7,hz,az] at hr2;simp (maxSteps:=9^9) [bl,aI.m,aI.b,aa,h1,h2,h3,c1,c2,c3',ci,c4,hr2,bc,q]
 |some k=>
  simp[yh,Iy,q,j7,hz,az] at hr2;simp (maxSteps:=9^9) [bl,aI.m,aI.b,aa,h1,h2,h3,c1,c2,c3',ci,c4,hr2,bc,q]
def pw(k:Nat):Nat:=128^k
def mg(l:List UInt8)(a:Nat):Nat→Nat→Nat→Option (Nat×Nat×Bool)
 |0,_,_=>none
 |d+1,k,n=>if h:a+k<l.length then
   if l[a+k].toNat<128 then some (if n+l[a+k].toNat%128*pw k≤1000000000∧kX (n+l[a+k].toNat%128*pw k)=(l.drop a).take (k+1) then(n+l[a+k].toNat%128*pw k,a+k+1,true) else(0,0,false))
   else mg l a d (k+1) (n+l[a+k].toNat%128*pw k)
  else none
def fF(l:List UInt8)(a:Int):Nat×Nat×Bool:=if 0≤a∧a≤l.length then(mg l a.toNat 5 0 0).getD (0,0,false) else(0,0,false)
theorem zf(l:List UInt8)(a d k n:Nat)(h:¬a+k<l.length):mg l a d k n=none:=by
 cases d with
 |zero=>rfl
 |succ d=>rw[mg,dif_neg h]
theorem BL(l:List UInt8)(a:Nat):∀d k n r,mg l a d k n=some r→r.1≤1000000000∧r.2.1≤l.length∧(r.2.2=true→a+k<r.2.1)
 |0,k,n,r,h=>by simp[mg] at h
 |d+1,k,n,r,hr=>by
  rw[mg] at hr;by_cases h:a+k<l.length
  ·rw[dif_pos h] at hr;split at hr
   ·simp only[aG] at hr;subst hr;split
    ·rename_i hc;exact⟨hc.1,by simp only;omega,fun _=>by simp only;omega⟩
    ·simp
   ·have:=BL l a d (k+1) _ r hr;exact⟨this.1,this.2.1,fun q=>by have:=this.2.2 q;omega⟩
  ·rw[dif_neg h] at hr;cases hr
theorem oh(l:List UInt8)(a:Int):(fF l a).1≤1000000000∧(fF l a).2.1≤l.length∧((fF l a).2.2=true→0≤a∧a<(fF l a).2.1):=by
 unfold fF;split
 ·rename_i h;cases hg:mg l a.toNat 5 0 0 with
  |none=>simp
  |some r=>
   have:=BL l a.toNat 5 0 0 r hg;exact⟨this.1,this.2.1,fun q=>⟨h.1,by have:=this.2.2 q;simp only[jd];omega⟩⟩
 ·simp
def AH(l:List UInt8)(a:Nat)(s:Nat×Nat)(x:Nat):St:={t:=[(0,.c (S l)),(1,.c (I a)),(7,.c (I s.2)),(8,.c (I (pw s.1:Nat))),(9,.c (I ((a:Int)+s.1)))],o:=[],n:=x}
def lF(q:Option (Nat×Nat×Bool))(m:St):Out×St:=match q with
 |some r=>(.ret,{t:=[(4,.c (I r.1)),(5,.c (I r.2.1)),(6,.c (.bool r.2.2))],o:=[],n:=m.n})
 |none=>(.exit 0,m)
theorem zg(q:Option (Nat×Nat×Bool))(m:St):(lF q m).1≠.normal:=by
 cases q<;>simp[lF]
theorem uL{k:Nat}(h:k≤5):pw k≤34359738368:=by
 have:k=0∨k=1∨k=2∨k=3∨k=4∨k=5:=by omega
 rcases this with rfl|rfl|rfl|rfl|rfl|rfl<;>decide+kernel
theorem BQ(k:Nat):pw (k+1)=pw k*128:=Nat.pow_succ 128 k
theorem BI{n k b:Nat}(h:n<pw k):n+b%128*pw k<pw (k+1):=by
 have h1:b%128≤127:=by omega
 have h2:b%128*pw k≤127*pw k:=cr _ h1;rw[BQ];omega
theorem cm.ar(h:cm.k M)(l:List UInt8)(hl:l.length≤4611686018427387904)(a:Int):
  run M 221 [.c (S l),.c (I a)] []=some (.ll [.c (I (fF l a).1),.c (I (fF l a).2.1),.c (.bool (fF l a).2.2)],[]):=by
 obtain⟨h0,k1,k2⟩:=h;have hw:=bS.ar k1 a 0 l.length;refine aB (b:=cm.m) h0 ⟨7, ?_⟩;by_cases c:0≤a∧a≤l.length;rotate_left
 ·have hb:(decide (0≤a)&&decide (a≤(l.length:Int)))=false:=by
   rw[Bool.eq_false_iff];intro hh;simp only[al,decide_eq_true_eq] at hh;omega
  rw[hb] at hw;simp[bl,cm.m,cm.b,aa,hw,fF,c]
 obtain⟨c1,c2⟩:=c;obtain⟨a,rfl⟩:=gB c1;have c3:a≤l.length:=by omega
 simp[c1,c3] at hw;obtain⟨g,hr⟩:=ji (f:=ct (run M) 7 cm.l0) (AH l a) (fun s=>s.1≤5∧s.2<pw s.1) (fun s=>5-s.1) (fun s=>mg l a (5-s.1) s.1 s.2) lF
  (by
   rintro ⟨k,n⟩ x ⟨h1,h2⟩;simp only at h1 h2;have hp:=uL h1;have e2:IntKind.i64.wrap ((a:Int)+5)=(a:Int)+5:=wrap_i64 (by omega) (by omega);have stop:(∃m,ct (run M) 7 cm.l0 (AH l a (k,n) x)=some (lF (mg l a (5-k) k n) m))→(∃s' y,ct (run M) 7 cm.l0 (AH l a (k,n) x)=some (.normal,AH l a s' y)∧(s'.1≤5∧s'.2<pw s'.1)∧5-s'.1<5-(k,n).1∧mg l a (5-s'.1) s'.1 s'.2=mg l a (5-(k,n).1) (k,n).1 (k,n).2)∨(∃z,ct (run M) 7 cm.l0 (AH l a (k,n) x)=some (lF (mg l a (5-(k,n).1) (k,n).1 (k,n).2) z)∧(lF (mg l a (5-(k,n).1) (k,n).1 (k,n).2) z).1≠.normal):=fun⟨m,hm⟩=> .inr ⟨m,hm,zg _ _⟩
   by_cases hlt:a+k<l.length;rotate_left
   ·have d1:¬(a:Int)+k<l.length:=by omega
    refine stop ?_;simp only[zf l a _ k n hlt,lF];simp[AH,cm.l0,d1]
   have d1:(a:Int)+k<l.length:=by omega
   by_cases h5:k<5;rotate_left
   ·have:k=5:=by omega
    subst this;refine stop ?_;simp only[Nat.sub_self,mg,lF];simp at d1;simp[AH,cm.l0,d1,e2]
   have d2:(a:Int)+k<a+5:=by omega
   have hs:=BI (b:=l[a+k].toNat) h2;have hp':=uL (k:=k+1) (by omega);have hd:5-k=(5-(k+1))+1:=by omega
   obtain⟨b,hb⟩:∃b,l[a+k]=b:=⟨_,rfl⟩
   rw[hb] at hs;have hbl:=b.toNat_lt;have e3:IntKind.i64.wrap (b.toNat:Int)=b.toNat:=wrap_i64 (by omega) (by omega);have q4:((b.toNat:Int)%128*(pw k:Nat))=((b.toNat%128*pw k:Nat):Int):=by push_cast;rfl
   have e4:IntKind.i64.wrap ((b.toNat:Int)%128*(pw k:Nat))=(b.toNat:Int)%128*(pw k:Nat):=by rw[q4];exact wrap_i64 (by omega) (by omega)
   have e5:IntKind.i64.wrap ((n:Int)+(b.toNat:Int)%128*(pw k:Nat))=(n:Int)+(b.toNat:Int)%128*(pw k:Nat):=by rw[q4];exact wrap_i64 (by omega) (by omega)
   have e6:IntKind.i64.wrap (((pw k:Nat):Int)*128)=((pw (k+1):Nat):Int):=by
    rw[show ((pw k:Nat):Int)*128=((pw (k+1):Nat):Int) by rw[BQ];push_cast;rfl];exact wrap_i64 (by omega) (by omega)
   have e7:IntKind.i64.wrap ((a:Int)+k+1)=(a:Int)+(k+1):=by rw[wrap_i64 (by omega) (by omega)];omega
   have e8:((a:Int)+k).toNat=a+k:=by omega
   have e9:(b.toNat:Int).tmod 128=(b.toNat:Int)%128:=Int.tmod_eq_emod_of_nonneg (by omega);have h1':=bL.ar k2 (n+b.toNat%128*pw k) (by omega);simp only[Int.natCast_add,Int.natCast_mul,Int.natCast_emod,bR] at h1';have f0:(0:Int)≤(a:Int)+k:=by omega
   by_cases hb128:b.toNat<128;rotate_left
   ·left;have b1:¬(b.toNat:Int)<128:=by omega
    obtain⟨y,hy⟩:∃y,ct (run M) 7 cm.l0 (AH l a (k,n) x)=some (.normal,AH l a (k+1,n+b.toNat%128*pw k) y):=by
     simp[AH,cm.l0,d1,d2,e2,e3,e4,e5,e6,e7,e8,e9,f0,hlt,iz,hb,b1]
    refine⟨(k+1,n+b.toNat%128*pw k),y,hy,⟨h5,hs⟩,by simp only;omega, ?_⟩;simp only[hd];rw[mg,dif_pos hlt,hb,if_neg hb128]
   refine stop ?_;have b1:(b.toNat:Int)<128:=by omega
   rw[hd,mg,dif_pos hlt,hb,if_pos hb128];have f1:(0:Int)≤(a:Int)+(k+1):=by omega
   have f2:((a:Int)+(k+1)).toNat=a+(k+1):=by omega
   by_cases hN:n+b.toNat%128*pw k≤1000000000;rotate_left
   ·rw[if_neg (fun q=>hN q.1)];have hN':1000000000<(n:Int)+(b.toNat:Int)%128*(pw k:Nat):=by rw[q4];omega
    simp[lF,AH,cm.l0,d1,d2,e2,e3,e4,e5,e6,e8,e9,f0,hlt,iz,hb,b1,hN'];exact⟨⟨[],[],_⟩,rfl⟩
   have hN':¬1000000000<(n:Int)+(b.toNat:Int)%128*(pw k:Nat):=by rw[q4];omega
   obtain⟨w,hw'⟩:∃w,(l.drop a).take (k+1)=w:=⟨_,rfl⟩
   have w1:(l.take (a+(k+1))).drop a=w:=by rw[←hw',List.drop_take];congr 1;omega
   have w2:(l.drop a).take (a+(k+1)-a)=w:=by rw[←hw'];congr 1;omega
   have g1:a≤a+(k+1)∧a+(k+1)≤l.length:=by omega
   rw[hw'];by_cases hv:kX (n+b.toNat%128*pw k)=w
   ·rw[if_pos ⟨hN,hv⟩];simp[lF,AH,cm.l0,d1,d2,e2,e3,e4,e5,e6,e7,e8,e9,f0,hlt,iz,hb,b1,hN',h1',f1,f2,w1,g1,hv];exact⟨by omega,⟨[],[],_⟩,rfl⟩
   ·rw[if_neg (fun q=>hv q.2)];simp[lF,AH,cm.l0,d1,d2,e2,e3,e4,e5,e6,e7,e8,e9,f0,hlt,iz,hb,b1,hN',h1',f1,f2,w1,g1,hv];exact⟨⟨[],[],_⟩,rfl⟩)
  7 (0,0) ⟨by simp,by simp[pw]⟩ (by simp)
 simp only[Nat.sub_zero] at hr;have hp0:pw 0=1:=rfl;simp only[fF];rw[if_pos ⟨c1,c2⟩];simp only[fp];cases hg:mg l a 5 0 0 with
 |none=>
  simp[AH,hg,lF,hp0] at hr;simp[bl,cm.m,cm.b,aa,hw,hr]
 |some r=>
  simp[AH,hg,lF,hp0] at hr;simp[bl,cm.m,cm.b,aa,hw,hr]
def A3(l:List UInt8)(a:Nat)(s:Nat×Nat)(x:Nat):St:={t:=[(0,.c (S l)),(1,.c (I a)),(7,.c (I s.2)),(8,.c (I s.1))],o:=[],n:=x}
theorem cn.ar(h:cn.k M)(l:List UInt8)(hl:l.length≤4611686018427387904)(a:Int):
  run M 231 [.c (S l),.c (I a)] []=some (.ll [.c (I (fF l a).1),.c (I (fF l a).2.1),.c (.bool (fF l a).2.2)],[]):=by
 obtain⟨h0,k1,k2⟩:=h;have hw:=b_.ar k1 a 0 l.length;refine aB (b:=cn.m) h0 ⟨7, ?_⟩;by_cases c:0≤a∧a≤l.length;rotate_left
 ·have hb:(decide (0≤a)&&decide (a≤(l.length:Int)))=false:=by
   rw[Bool.eq_false_iff];intro hh;simp only[al,decide_eq_true_eq] at hh;omega
  rw[hb] at hw;simp[bl,cn.m,cn.b,aa,hw,fF,c]
 obtain⟨c1,c2⟩:=c;obtain⟨a,rfl⟩:=gB c1;have c3:a≤l.length:=by omega
 simp[c1,c3] at hw;obtain⟨g,hr⟩:=ji (f:=ct (run M) 7 cn.l0) (A3 l a) (fun s=>s.1≤5∧s.2<pw s.1) (fun s=>5-s.1) (fun s=>mg l a (5-s.1) s.1 s.2) lF
  (by
   rintro ⟨k,n⟩ x ⟨h1,h2⟩;simp only at h1 h2;have hp:=uL h1;have stop:(∃m,ct (run M) 7 cn.l0 (A3 l a (k,n) x)=some (lF (mg l a (5-k) k n) m))→(∃s' y,ct (run M) 7 cn.l0 (A3 l a (k,n) x)=some (.normal,A3 l a s' y)∧(s'.1≤5∧s'.2<pw s'.1)∧5-s'.1<5-(k,n).1∧mg l a (5-s'.1) s'.1 s'.2=mg l a (5-(k,n).1) (k,n).1 (k,n).2)∨(∃z,ct (run M) 7 cn.l0 (A3 l a (k,n) x)=some (lF (mg l a (5-(k,n).1) (k,n).1 (k,n).2) z)∧(lF (mg l a (5-(k,n).1) (k,n).1 (k,n).2) z).1≠.normal):=fun⟨m,hm⟩=> .inr ⟨m,hm,zg _ _⟩
   by_cases h5:k<5;rotate_left
   ·have:k=5:=by omega
    subst this;refine stop ?_;simp only[Nat.sub_self,mg,lF];simp[A3,cn.l0]
   have d2:(k:Int)<5:=by omega
   have e0:IntKind.i64.wrap ((a:Int)+k)=(a:Int)+k:=wrap_i64 (by omega) (by omega);by_cases hlt:a+k<l.length;rotate_left
   ·have d1:¬(a:Int)+k<l.length:=by omega
    refine stop ?_;simp only[zf l a _ k n hlt,lF];simp[A3,cn.l0,d1,d2,e0]
   have d1:(a:Int)+k<l.length:=by omega
   have hs:=BI (b:=l[a+k].toNat) h2;have hp':=uL (k:=k+1) (by omega);have hd:5-k=(5-(k+1))+1:=by omega
   obtain⟨b,hb⟩:∃b,l[a+k]=b:=⟨_,rfl⟩
   rw[hb] at hs;have hbl:=b.toNat_lt;have e3:sP .u8 (b.toNat:Int) 127=(b.toNat:Int)%128:=by
    have:=Jm b.toNat 127 (by omega) (by omega);rw[Ci] at this;rw[show (127:Int)=((127:Nat):Int) from rfl,this];omega
   have e3':IntKind.i64.wrap ((b.toNat:Int)%128)=(b.toNat:Int)%128:=wrap_i64 (by omega) (by omega);have e4:IntKind.i64.wrap (7*(k:Int))=7*(k:Int):=wrap_i64 (by omega) (by omega);have e4':(7*(k:Int)).toNat=7*k:=by omega
   have e4'':min (7*k) 64=7*k:=by omega
   have q4:((b.toNat:Int)%128*(pw k:Nat))=((b.toNat%128*pw k:Nat):Int):=by push_cast;rfl
   have q5:(2:Int)^(7*k)=(pw k:Nat):=by
    unfold pw;rw[Int.pow_mul];push_cast;rfl
   have e5:IntKind.i64.wrap ((b.toNat:Int)%128*(pw k:Nat))=(b.toNat:Int)%128*(pw k:Nat):=by rw[q4];exact wrap_i64 (by omega) (by omega)
   have e6:DB .i64 (n:Int) ((b.toNat:Int)%128*(pw k:Nat))=(n:Int)+(b.toNat:Int)%128*(pw k:Nat):=by
    rw[q4,vE n (b.toNat%128*pw k) (by omega) (by omega)];have:=Gp n (b.toNat%128) k h2;unfold pw at this ⊢;rw[this];push_cast;rfl
   have e7:=cA (i:=k) (by omega);have e7':IntKind.i64.wrap ((a:Int)+k+1)=(a:Int)+(k+1):=by rw[wrap_i64 (by omega) (by omega)];omega
   have e8:((a:Int)+k).toNat=a+k:=by omega
   have h1':=eQ.ar k2 (n+b.toNat%128*pw k) (by omega);simp only[Int.natCast_add,Int.natCast_mul,Int.natCast_emod,bR] at h1';have f0:(0:Int)≤(a:Int)+k:=by omega
   have f3:(0:Int)≤7*(k:Int):=by omega
   have f4:¬7*(k:Int)<0:=by omega
   by_cases hb128:b.toNat<128;rotate_left
   ·left;have b1:127<(b.toNat:Int):=by omega
    obtain⟨y,hy⟩:∃y,ct (run M) 7 cn.l0 (A3 l a (k,n) x)=some (.normal,A3 l a (k+1,n+b.toNat%128*pw k) y):=by
     simp[A3,cn.l0,d1,d2,e0,e3,e3',e4,e4',e4'',e5,e6,e7,e8,q5,f0,f4,hlt,iz,hb,b1,IntKind.bits]
    refine⟨(k+1,n+b.toNat%128*pw k),y,hy,⟨h5,hs⟩,by simp only;omega, ?_⟩;simp only[hd];rw[mg,dif_pos hlt,hb,if_neg hb128]
   refine stop ?_;have b1:¬127<(b.toNat:Int):=by omega
   rw[hd,mg,dif_pos hlt,hb,if_pos hb128];have f1:(0:Int)≤(a:Int)+(k+1):=by omega
   have f2:((a:Int)+(k+1)).toNat=a+(k+1):=by omega
   by_cases hN:n+b.toNat%128*pw k≤1000000000;rotate_left
   ·rw[if_neg (fun q=>hN q.1)];simp only[hN,if_false,decide_false] at h1';simp[lF,A3,cn.l0,d1,d2,e0,e3,e3',e4,e4',e4'',e5,e6,e8,q5,f0,f4,hlt,iz,hb,b1,h1',IntKind.bits];exact⟨⟨[],[],_⟩,rfl⟩
   simp only[hN,if_true,decide_true] at h1';obtain⟨w,hw'⟩:∃w,(l.drop a).take (k+1)=w:=⟨_,rfl⟩
   have w1:(l.take (a+(k+1))).drop a=w:=by rw[←hw',List.drop_take];congr 1;omega
   have w2:(l.drop a).take (a+(k+1)-a)=w:=by rw[←hw'];congr 1;omega
   have g1:a≤a+(k+1)∧a+(k+1)≤l.length:=by omega
   rw[hw'];by_cases hv:kX (n+b.toNat%128*pw k)=w
   ·rw[if_pos ⟨hN,hv⟩];simp[lF,A3,cn.l0,d1,d2,e0,e3,e3',e4,e4',e4'',e5,e6,e7',e8,q5,f0,f4,hlt,iz,hb,b1,h1',f1,f2,w1,g1,hv,IntKind.bits];exact⟨by omega,⟨[],[],_⟩,rfl⟩
   ·rw[if_neg (fun q=>hv q.2)];simp[lF,A3,cn.l0,d1,d2,e0,e3,e3',e4,e4',e4'',e5,e6,e7',e8,q5,f0,f4,hlt,iz,hb,b1,h1',f1,f2,w1,g1,hv,IntKind.bits];exact⟨⟨[],[],_⟩,rfl⟩)
  7 (0,0) ⟨by simp,by simp[pw]⟩ (by simp)
 simp only[Nat.sub_zero] at hr;simp only[fF];rw[if_pos ⟨c1,c2⟩];simp only[fp];cases hg:mg l a 5 0 0 with
 |none=>
  simp[A3,hg,lF] at hr;simp[bl,cn.m,cn.b,aa,hw,hr]
 |some r=>
  simp[A3,hg,lF] at hr;simp[bl,cn.m,cn.b,aa,hw,hr]
def gM(l:List UInt8)(a:Int):List UInt8×Nat×Bool:=
 if(fF l a).2.2=true∧(fF l a).1≤20000∧(fF l a).1+(fF l a).2.1≤l.length then((l.drop (fF l a).2.1).take (fF l a).1,(fF l a).2.1+(fF l a).1,true) else([],0,false)
theorem dF.ar(h:dF.k M)(l:List UInt8)(hl:l.length≤4611686018427387904)(a:Int):
  run M 206 [.c (S l),.c (I a)] []=some (.ll [.c (S (gM l a).1),.c (I (gM l a).2.1),.c (.bool (gM l a).2.2)],[]):=by
 have h1:=cm.ar h.2 l hl a;obtain⟨q1,q2,_⟩:=oh l a;refine aB (b:=dF.m) h.1 ⟨0, ?_⟩;unfold gM;generalize (fF l a).1=n at*;generalize (fF l a).2.1=f at*;generalize (fF l a).2.2=ok at*;cases ok with
 |false=>simp[bl,dF.m,dF.b,aa,h1]
 |true=>
  by_cases c1:n≤20000;rotate_left
  ·have c1':20000<(n:Int):=by omega
   simp[bl,dF.m,dF.b,aa,h1,c1,c1']
  have c1':¬20000<(n:Int):=by omega
  have e1:IntKind.i64.wrap ((l.length:Int)-f)=(l.length:Int)-f:=wrap_i64 (by omega) (by omega);by_cases c2:n+f≤l.length;rotate_left
  ·have c2':(l.length:Int)-f<n:=by omega
   simp[bl,dF.m,dF.b,aa,h1,c1,c1',c2,c2',e1]
  have c2':¬(l.length:Int)-f<n:=by omega
  have e2:IntKind.i64.wrap ((f:Int)+n)=(f:Int)+n:=wrap_i64 (by omega) (by omega);have e3:((f:Int)+n).toNat=f+n:=by omega
  have e4:(0:Int)≤(f:Int)+n:=by omega
  have e5:f≤f+n∧f+n≤l.length:=by omega
  obtain⟨w,hw⟩:∃w,(l.drop f).take n=w:=⟨_,rfl⟩
  have w1:(l.take (f+n)).drop f=w:=by rw[←hw,List.drop_take];congr 1;omega
  have w2:(l.drop f).take (f+n-f)=w:=by rw[←hw];congr 1;omega
  simp[bl,dF.m,dF.b,aa,h1,c1,c1',c2,c2',e1,e2,e3,e4,e5,hw,w1]
theorem dN.ar(h:dN.k M)(l:List UInt8)(hl:l.length≤4611686018427387904)(a:Int):
  run M 207 [.c (S l),.c (I a)] []=some (.ll [.c (S (gM l a).1),.c (I (gM l a).2.1),.c (.bool (gM l a).2.2)],[]):=by
 have h1:=cn.ar h.2 l hl a;obtain⟨q1,q2,_⟩:=oh l a;refine aB (b:=dN.m) h.1 ⟨0, ?_⟩;unfold gM;generalize (fF l a).1=n at*;generalize (fF l a).2.1=f at*;generalize (fF l a).2.2=ok at*;cases ok with
 |false=>simp[bl,dN.m,dN.b,aa,h1]
 |true=>
  by_cases c1:n≤20000;rotate_left
  ·have c1':20000<(n:Int):=by omega
   simp[bl,dN.m,dN.b,aa,h1,c1,c1']
  have c1':¬20000<(n:Int):=by omega
  have e1:IntKind.i64.wrap ((l.length:Int)-f)=(l.length:Int)-f:=wrap_i64 (by omega) (by omega);by_cases c2:n+f≤l.length;rotate_left
  ·have c2':(l.length:Int)-f<n:=by omega
   simp[bl,dN.m,dN.b,aa,h1,c1,c1',c2,c2',e1]
  have c2':¬(l.length:Int)-f<n:=by omega
  have e2:IntKind.i64.wrap ((f:Int)+n)=(f:Int)+n:=wrap_i64 (by omega) (by omega);have e3:((f:Int)+n).toNat=f+n:=by omega
  have e4:(0:Int)≤(f:Int)+n:=by omega
  have e5:f≤f+n∧f+n≤l.length:=by omega
  obtain⟨w,hw⟩:∃w,(l.drop f).take n=w:=⟨_,rfl⟩
  have w1:(l.take (f+n)).drop f=w:=by rw[←hw,List.drop_take];congr 1;omega
  have w2:(l.drop f).take (f+n-f)=w:=by rw[←hw];congr 1;omega
  simp[bl,dN.m,dN.b,aa,h1,c1,c1',c2,c2',e1,e2,e3,e4,e5,hw,w1]
theorem kC{a n b:Int}:jE a n b=true↔a≤n∧n≤b:=by simp[jE]
def iP(n:Int):List UInt8:=kX n.toNat
theorem DI{n:Int}(h:n≤9223372036854775807):(iP n).length≤10:=lj (by omega)
theorem bL.int(h:bL.k M)(n:Int)(h0:0≤n)(h1:n≤9223372036854775807):run M 99 [.c (I n)] []=some (.c (S (iP n)),[]):=by
 have:=bL.ar h n.toNat (by omega);rw[show ((n.toNat:Nat):Int)=n by omega] at this;exact this
def isVar(n:Int):Prop:=0≤n∧n≤1000000000
theorem fv{n:Int}(h:isVar n):(iP n).length≤10:=DI (by have:=h.2;omega)
def wW(r:mi):List UInt8:=texts iP [r.val,r.time,r.eE]
def oj(m:bo):List UInt8:=texts iP [m.gid,m.uid]++texts wW m.flags++qh m.text
theorem vz{r:mi}(h:nN r=true):isVar r.val∧isVar r.time∧isVar r.eE:=by
 simp only[nN,j2,al,kC] at h;unfold isVar;omega
theorem pQ{l:List mi}(h:lH l=true):l.length=3∧∀r∈l,nN r=true:=by
 simp only[lH,al,decide_eq_true_eq,cp,iV] at h;refine⟨h.2,fun r hr=> ?_⟩;obtain⟨i,hi,e⟩:=bV hr;have:=h.1 i hi;rw[oA hi,e] at this;simp at this;exact this.1
theorem mE{m:bo}(h:iU m=true):isVar m.gid∧isVar m.uid∧m.flags.length=3∧(∀r∈m.flags,nN r=true)∧m.text.length≤60:=by
 simp only[iU,al,kC,decide_eq_true_eq] at h;have hf:=pQ h.1.2;exact⟨⟨by omega,by omega⟩,⟨by omega,by omega⟩,hf.1,hf.2,h.2⟩
theorem vw{r:mi}(h:nN r=true):(wW r).length≤30:=by
 have h1:=vz h;have:=fv h1.1;have:=fv h1.2.1;have:=fv h1.2.2;simp[wW,texts];omega
theorem qK{m:bo}(h:iU m=true):(oj m).length≤1000:=by
 obtain⟨h1,h2,h3,h4,h5⟩:=mE h;have:=fv h1;have:=fv h2;have h6:=mB wW m.flags 30 fun r hr=>vw (h4 r hr)
 have h7:=lj (n:=m.text.length) (by omega);rw[h3] at h6;simp only[oj,qh,aF];have:(texts iP [m.gid,m.uid]).length≤20:=by simp[texts];omega
 omega
def K3(m:bo)(i:Nat)(s:List UInt8)(x:Nat×Nat):St:={t:=[(1,.c (.ptr 1 x.1 0 0)),(4,.c (S s)),(5,.c (I i))],o:=[(1,⟨x.1,4,true,true,[ah m]⟩)],n:=x.2}
def LJ(m:bo)(s:List UInt8)(x:Nat×Nat):St:={t:=[(1,.c (.ptr 1 x.1 0 0)),(4,.c (S s)),(5,.c (I m.flags.length)),(20,.c (.bool false))],o:=[(1,⟨x.1,4,true,true,[ah m]⟩)],n:=x.2}
theorem ec.ar(h:ec.k M)(m:bo)(hl:m.flags.length≤1048576):run M 122 [.a (ah m)] []=some (.ll [.c (S (if iU m=true then oj m else [])),.c (.bool (iU m))],[]):=by
 obtain⟨h0,kv,ko⟩:=h;have h1:=dI.ar ko m hl;refine aB (b:=ec.m) h0 ⟨m.flags.length+1, ?_⟩;simp only[ah] at h1;cases c:iU m
 ·rw[c] at h1;simp (maxSteps:=9^9) [bl,ec.m,ec.b,aa,h1]
 rw[c] at h1;obtain⟨v1,v2,v3,v4,v5⟩:=mE c;have h2:=bL.int kv m.gid v1.1 (by have:=v1.2;omega);have h2':=bL.int kv m.uid v2.1 (by have:=v2.2;omega);have h3:=bL.ar kv m.text.length (by omega);have l0:=fv v1;have l0':=fv v2;obtain⟨g,hr⟩:=oT (f:=ct (run M) (m.flags.length+1) ec.l0) m.flags wW 30 20 (fun r hr=>vw (v4 r hr)) (K3 m) 0 (LJ m)
  (fun i hi s x hs=>by
   obtain⟨v,x⟩:=x;have e5:=cA (i:=i) (by omega);have hx:=vz (v4 _ (ax hi));have h4:=bL.int kv m.flags[i].val hx.1.1 (by have:=hx.1.2;omega);have h5:=bL.int kv m.flags[i].time hx.2.1.1 (by have:=hx.2.1.2;omega);have h6:=bL.int kv m.flags[i].eE hx.2.2.1 (by have:=hx.2.2.2;omega);have l1:=fv hx.1;have l2:=fv hx.2.1;have l3:=fv hx.2.2;simp only[aE];simp (maxSteps:=9^9) (disch:=(first|omega|(simp;done)|(simp;omega))) [ec.l0,eN,K3,hi,h4,h5,h6,e5,aR,wW,texts])
  (fun s x=>by
   obtain⟨v,x⟩:=x;simp only[aE];simp (maxSteps:=9^9) [ec.l0,K3,LJ]) (iP m.gid++iP m.uid) (by simp;omega)
 have l2:=mB wW m.flags 30 fun r hr=>vw (v4 r hr)
 have l3:=lj (n:=m.text.length) (by omega);have hp:texts iP [m.gid,m.uid]=iP m.gid++iP m.uid:=by simp[texts]
 have hm:oj m=iP m.gid++(iP m.uid++(texts wW m.flags++(kX m.text.length++m.text))):=by simp[oj,hp,qh]
 simp[K3,LJ] at hr;rw[hm];simp (maxSteps:=9^9) (disch:=(first|omega|(simp;done)|(simp;omega))) [bl,ec.m,ec.b,aa,ab,eN,hr,h1,h2,h2',h3]
theorem yg{t w:Int}(h:j2 t w=true):isVar t∧isVar w:=by
 simp only[j2,al,kC] at h;unfold isVar;omega
theorem oK{l:List Int}{most:Int}(h:kS l most=true):(l.length:Int)≤most∧∀n∈l,1≤n∧n≤9999:=by
 simp only[kS,al,decide_eq_true_eq,cp,iV] at h;refine⟨h.2,fun r hr=> ?_⟩;obtain⟨i,hi,e⟩:=bV hr;have:=h.1 i hi;rw[m_ hi,e] at this;simp at this;exact kC.1 this.1
theorem mu{l:List UInt8}(h:mh l=true):1≤l.length∧l.length≤12:=by
 simp only[mh,al,kC] at h;omega
theorem jv{b:bz}(h:fz b=true):isVar b.gid∧b.name.length≤12∧isVar b.time∧isVar b.eE∧isVar b.next∧b.ae.length≤10∧b.gone.length≤40∧(∀n∈b.gone,isVar n)∧∀m∈b.ae,iU m=true:=by
 simp only[fz,al,decide_eq_true_eq,cp,iV,kC] at h;obtain⟨⟨⟨⟨⟨⟨h1,h2⟩,h3⟩,h4⟩,h5⟩,h6⟩,h7⟩:=h;have hn:=mu h2;have hs:=yg h3;have hg:=oK h6;refine⟨⟨by omega,by omega⟩,hn.2,hs.1,hs.2,⟨by omega,by omega⟩,h5,by omega,fun n hn=>⟨by have:=hg.2 n hn;omega,by have:=hg.2 n hn;omega⟩,fun m hm=> ?_⟩;obtain⟨i,hi,e⟩:=bV hm;have:=h7 i hi;rw[mA hi,e] at this;simp at this;exact this.1.1.1.1
def xf(b:bz):List UInt8:=iP b.gid++(kX b.name.length++(b.name++(iP b.time++(iP b.eE++(iP b.next++kX b.ae.length)))))
def tC(b:bz):List UInt8:=xf b++(texts oj b.ae++(kX b.gone.length++texts iP b.gone))
theorem zP{b:bz}(h:fz b=true):(xf b).length≤200:=by
 obtain⟨h1,h2,h3,h4,h5,h6,_⟩:=jv h;have:=fv h1;have:=fv h3;have:=fv h4;have:=fv h5;have:=lj (n:=b.name.length) (by omega);have:=lj (n:=b.ae.length) (by omega);simp[xf];omega
def Lf(b:bz)(i:Nat)(s:List UInt8)(x:Nat×Nat):St:={t:=[(1,.c (.ptr 1 x.1 0 0)),(4,.c (S s)),(5,.c (I i))],o:=[(1,⟨x.1,7,true,true,[af b]⟩)],n:=x.2}
def L4(b:bz)(s:List UInt8)(x:Nat×Nat):St:={t:=[(1,.c (.ptr 1 x.1 0 0)),(4,.c (S s)),(5,.c (I b.ae.length)),(46,.c (.bool false))],o:=[(1,⟨x.1,7,true,true,[af b]⟩)],n:=x.2}
def Lg(b:bz)(i:Nat)(s:List UInt8)(x:Nat×Nat):St:={t:=[(1,.c (.ptr 1 x.1 0 0)),(4,.c (S s)),(8,.c (I i))],o:=[(1,⟨x.1,7,true,true,[af b]⟩)],n:=x.2}
def L7(b:bz)(s:List UInt8)(x:Nat×Nat):St:={t:=[(1,.c (.ptr 1 x.1 0 0)),(4,.c (S s)),(8,.c (I b.gone.length)),(71,.c (.bool false))],o:=[(1,⟨x.1,7,true,true,[af b]⟩)],n:=x.2}
theorem c_.ar(h:c_.k M)(b:bz)(hml:b.ae.length≤1048576)(hgl:b.gone.length≤4611686018427387904)(hnl:b.name.length≤4611686018427387904)(hw:∀m∈b.ae,m.flags.length≤1048576):
  run M 34 [.a (af b)] []=some (.ll [.c (S (if fz b=true then tC b else [])),.c (.bool (fz b))],[]):=by
 obtain⟨h0,ko,kv,km⟩:=h;have h1:=bB.ar ko b hml hgl hnl hw;refine aB (b:=c_.m) h0 ⟨b.ae.length+b.gone.length+1, ?_⟩;simp only[af] at h1;cases c:fz b
 ·rw[c] at h1;simp (maxSteps:=9^9) [bl,c_.m,c_.b,aa,h1]
 rw[c] at h1;obtain⟨v1,v2,v3,v4,v5,v6,v7,v8,v9⟩:=jv c;have g1:=bL.int kv b.gid v1.1 (by have:=v1.2;omega);have g2:=bL.ar kv b.name.length (by omega);have g3:=bL.int kv b.time v3.1 (by have:=v3.2;omega);have g4:=bL.int kv b.eE v4.1 (by have:=v4.2;omega);have g5:=bL.int kv b.next v5.1 (by have:=v5.2;omega);have g6:=bL.ar kv b.ae.length (by omega);have g7:=bL.ar kv b.gone.length (by omega);have l1:=fv v1;have l3:=fv v3;have l4:=fv v4;have l5:=fv v5;have l6:=lj (n:=b.name.length) (by omega);have l7:=lj (n:=b.ae.length) (by omega);have l8:=lj (n:=b.gone.length) (by omega);have l9:=mB iP b.gone 10 fun n hn=>fv (v8 n hn)
 have l10:=mB oj b.ae 1000 fun m hm=>qK (v9 m hm)
 have hp:=zP c;obtain⟨g,hr⟩:=oT (f:=ct (run M) (b.ae.length+b.gone.length+1) c_.l0) b.ae oj 1000 200 (fun m hm=>qK (v9 m hm)) (Lf b) 0 (L4 b)
  (fun i hi s x hs=>by
   obtain⟨v,x⟩:=x;have e5:=cA (i:=i) (by omega);have hx:=v9 _ (ax hi);have h6:=ec.ar km b.ae[i] (by have:=(mE hx).2.2.1;omega);rw[if_pos hx,hx] at h6;have h7:=qK hx;simp only[ah] at h6;simp only[aE];have e6:=eN s (oj b.ae[i]) (by omega);simp (maxSteps:=9^9) [c_.l0,Lf,hi,h6,e5,e6,ah])
  (fun s x=>by
   obtain⟨v,x⟩:=x;simp only[aE];simp (maxSteps:=9^9) [c_.l0,Lf,L4]) (xf b) hp
 obtain⟨g',hr'⟩:=oT (f:=ct (run M) (b.ae.length+b.gone.length+1) c_.l1) b.gone iP 10 11000 (fun n hn=>fv (v8 n hn)) (Lg b) 2 (L7 b)
  (fun i hi s x hs=>by
   obtain⟨v,x⟩:=x;have e5:=cA (i:=i) (by omega);have hx:=v8 _ (ax hi);have h6:=bL.int kv b.gone[i] hx.1 (by have:=hx.2;omega);have h7:=fv hx;simp only[aE];have e6:=eN s (iP b.gone[i]) (by omega);simp (maxSteps:=9^9) [c_.l1,Lg,hi,h6,e5,e6])
  (fun s x=>by
   obtain⟨v,x⟩:=x;simp only[aE];simp (maxSteps:=9^9) [c_.l1,Lg,L7]) (xf b++texts oj b.ae++kX b.gone.length) (by simp;omega)
 have e1:=eN (iP b.gid) (kX b.name.length) (by omega);have e2:=eN (iP b.gid++kX b.name.length) b.name (by simp;omega);have e3:=eN (iP b.gid++kX b.name.length++b.name) (iP b.time) (by simp;omega);have e4:=eN (iP b.gid++kX b.name.length++b.name++iP b.time) (iP b.eE) (by simp;omega);have e5:=eN (iP b.gid++kX b.name.length++b.name++iP b.time++iP b.eE) (iP b.next) (by simp;omega);have e6:=eN (iP b.gid++kX b.name.length++b.name++iP b.time++iP b.eE++iP b.next) (kX b.ae.length) (by simp;omega);have e7:xf b=iP b.gid++kX b.name.length++b.name++iP b.time++iP b.eE++iP b.next++kX b.ae.length:=by simp[xf]
 rw[←e7] at e6;have e8:=eN (xf b++texts oj b.ae) (kX b.gone.length) (by simp;omega);simp only[cP] at e1 e2 e3 e4 e5 e6 e8;simp[Lf,L4] at hr;simp[Lg,L7] at hr';simp only[tC];have m1:b.ae.length+1≤b.ae.length+b.gone.length+1:=by omega
 have m2:b.gone.length+1≤b.ae.length+b.gone.length+1:=by omega
 have hr2:=fun x y=>gd (hr x y) m1
 have hr3:=fun x y=>gd (hr' x y) m2
 generalize xf b=p at*;generalize texts oj b.ae=q at*;generalize texts iP b.gone=r at*;simp (maxSteps:=9^9) [bl,c_.m,c_.b,aa,hr2,hr3,h1,g1,g2,g3,g4,g5,g6,g7,e1,e2,e3,e4,e5,e6,e8]
abbrev iC:=Int×Bool
abbrev lU(v:Nat)(l:List UInt8)(c:iC):Ob:=⟨v,3,true,true,[[S l,I c.1,.bool c.2]]⟩
abbrev pc:T:= .ptr 0 0 0 0
def cvar(l:List UInt8)(c:iC):Int×iC:=if c.2=true∨(fF l c.1).2.2=false then(0,c.1,true) else((fF l c.1).1,(fF l c.1).2.1,false)
def iL(l:List UInt8)(c:iC):List UInt8×iC:=if c.2=true∨(gM l c.1).2.2=false then([],c.1,true) else((gM l c.1).1,(gM l c.1).2.1,false)
theorem b8.ar(h:b8.k M)(l:List UInt8)(hl:l.length≤4611686018427387904)(c:iC):
  run M 152 [.c pc] [(0,lU 0 l c)]=some (.c (I (cvar l c).1),[(0,lU 0 l (cvar l c).2)]):=by
 obtain⟨a,b⟩:=c;have h1:=cn.ar h.2 l hl a;refine aB (b:=b8.m) h.1 ⟨0, ?_⟩;unfold cvar;generalize fF l a=r at*;obtain⟨n,e,ok⟩:=r;cases b<;>cases ok<;>simp (maxSteps:=9^9) [bl,b8.m,b8.b,aa,setAt,h1]
theorem fb.ar(h:fb.k M)(l:List UInt8)(hl:l.length≤4611686018427387904)(c:iC):
  run M 153 [.c pc] [(0,lU 0 l c)]=some (.c (S (iL l c).1),[(0,lU 0 l (iL l c).2)]):=by
 obtain⟨a,b⟩:=c;have h1:=dN.ar h.2 l hl a;refine aB (b:=fb.m) h.1 ⟨0, ?_⟩;unfold iL;generalize gM l a=r at*;obtain⟨n,e,ok⟩:=r;cases b<;>cases ok<;>simp (maxSteps:=9^9) [bl,fb.m,fb.b,aa,setAt,h1]
theorem cD.ar(h:cD.k M)(l:List UInt8)(hl:l.length≤4611686018427387904)(c:iC):
  run M 139 [.c pc] [(0,lU 0 l c)]=some (.c (I (cvar l c).1),[(0,lU 0 l (cvar l c).2)]):=by
 obtain⟨a,b⟩:=c;have h1:=cm.ar h.2 l hl a;refine aB (b:=cD.m) h.1 ⟨0, ?_⟩;unfold cvar;generalize fF l a=r at*;obtain⟨n,e,ok⟩:=r;cases b<;>cases ok<;>simp (maxSteps:=9^9) [bl,cD.m,cD.b,aa,setAt,h1]
theorem fY.ar(h:fY.k M)(l:List UInt8)(hl:l.length≤4611686018427387904)(c:iC):
  run M 140 [.c pc] [(0,lU 0 l c)]=some (.c (S (iL l c).1),[(0,lU 0 l (iL l c).2)]):=by
 obtain⟨a,b⟩:=c;have h1:=dF.ar h.2 l hl a;refine aB (b:=fY.m) h.1 ⟨0, ?_⟩;unfold iL;generalize gM l a=r at*;obtain⟨n,e,ok⟩:=r;cases b<;>cases ok<;>simp (maxSteps:=9^9) [bl,fY.m,fY.b,aa,setAt,h1]
def jf(l:List UInt8)(most:Int)(c:iC):Int×iC:=
 if most<(cvar l c).1∨(cvar l c).2.2=true then(0,(cvar l c).2.1,true) else cvar l c
theorem dK.ar(h:dK.k M)(l:List UInt8)(hl:l.length≤4611686018427387904)(most:Int)(c:iC):
  run M 169 [.c pc,.c (I most)] [(0,lU 0 l c)]=some (.c (I (jf l most c).1),[(0,lU 0 l (jf l most c).2)]):=by
 have h1:=b8.ar h.2 l hl c;refine aB (b:=dK.m) h.1 ⟨0, ?_⟩;unfold jf;generalize cvar l c=r at*;obtain⟨n,e,b⟩:=r;by_cases c1:most<n
 ·simp (maxSteps:=9^9) [bl,dK.m,dK.b,aa,setAt,h1,c1]
 ·cases b<;>simp (maxSteps:=9^9) [bl,dK.m,dK.b,aa,h1,c1]
def kT(l:List UInt8)(c:iC):(Int×Int)×iC:=(((cvar l c).1,(cvar l (cvar l c).2).1),(cvar l (cvar l c).2).2)
theorem fa.ar(h:fa.k M)(l:List UInt8)(hl:l.length≤4611686018427387904)(c:iC):
  run M 222 [.c pc] [(0,lU 0 l c)]=some (.a [I (kT l c).1.1,I (kT l c).1.2],[(0,lU 0 l (kT l c).2)]):=by
 have h1:=b8.ar h.2 l hl c;have h2:=b8.ar h.2 l hl (cvar l c).2;refine aB (b:=fa.m) h.1 ⟨0, ?_⟩;simp (maxSteps:=9^9) [bl,fa.m,fa.b,aa,setAt,h1,h2,kT]
def j6{α:Type}(p:iC→α×iC):Nat→iC→List α×iC
 |0,c=>([],c)
 |n+1,c=>((p c).1::(j6 p n (p c).2).1,(j6 p n (p c).2).2)
theorem kF{α:Type}(p:iC→α×iC):∀n c,(j6 p n c).1.length=n
 |0,c=>rfl
 |n+1,c=>by simp[j6,kF p n]
theorem qi{α β γ:Type}(n:Nat)(p:iC→α×iC){f:St→Option (Out×St)}(S:Nat→List α→iC→β→St)(e:Nat)(E:List α→iC→γ→St)
  (h1:∀i,i<n→∀acc c x,acc.length=i→∃y,f (S i acc c x)=some (.normal,S (i+1) (acc++[(p c).1]) (p c).2 y))
  (h3:∀acc c x,acc.length=n→∃y,f (S n acc c x)=some (.exit e,E acc c y)) (c:iC):
  ∃g:β→γ,∀x,eG f (n+1) (S 0 [] c x)=some (.exit e,E (j6 p n c).1 (j6 p n c).2 (g x)):=by
 have:=ji (f:=f) (fun s:Nat×List α×iC=>S s.1 s.2.1 s.2.2) (fun s=>s.1≤n∧s.2.1.length=s.1) (fun s=>n-s.1) (fun s=>(s.2.1++(j6 p (n-s.1) s.2.2).1,(j6 p (n-s.1) s.2.2).2)) (fun q m=>(.exit e,E q.1 q.2 m)) ?_ (n+1) (0,[],c) ⟨Nat.zero_le _,rfl⟩ (by simp)
 ·simpa using this
 rintro ⟨i,acc,c⟩ x ⟨hi,ha⟩;simp only at hi ha;by_cases hlt:i<n
 ·left;obtain⟨y,hy⟩:=h1 i hlt acc c x ha;refine⟨(i+1,acc++[(p c).1],(p c).2),y,hy,⟨hlt,by simp[ha]⟩,by simp only;omega, ?_⟩;simp only;rw[show n-i=(n-(i+1))+1 by omega];simp[j6]
 ·have:i=n:=by omega
  subst this;right;obtain⟨y,hy⟩:=h3 acc c x ha;exact⟨y,by simp[hy,j6],by simp⟩
def mP(l:List UInt8)(most:Int)(c:iC):List Int×iC:=j6 (cvar l) (jf l most c).1.toNat (jf l most c).2
theorem nX(l:List UInt8)(c:iC):0≤(cvar l c).1∧(cvar l c).1≤1000000000:=by
 have:=(oh l c.1).1;unfold cvar;split<;>simp<;>omega
theorem pe(l:List UInt8)(most:Int)(c:iC):0≤(jf l most c).1∧(jf l most c).1≤1000000000∧(0≤most→(jf l most c).1≤most):=by
 have:=nX l c;unfold jf;split
 ·simp
 ·rename_i h;rw[not_or] at h;omega
def KU(l:List UInt8)(n:Nat)(i:Nat)(acc:List Int)(c:iC)(x:Nat×Nat):St:={t:=[(0,.c pc),(5,.c (.row 8 x.1 0 i)),(12,.c (I n)),(13,.c (I i))],o:=[(0,lU 0 l c),(8,⟨x.1,1,true,false,az acc⟩)],n:=x.2}
def LH(l:List UInt8)(n:Nat)(acc:List Int)(c:iC)(x:Nat×Nat):St:={t:=[(0,.c pc),(5,.c (.row 8 x.1 0 n)),(12,.c (I n)),(13,.c (I n)),(14,.c (.bool false))],o:=[(0,lU 0 l c),(8,⟨x.1,1,true,false,az acc⟩)],n:=x.2}
theorem dm.ar(h:dm.k M)(l:List UInt8)(hl:l.length≤4611686018427387904)(most:Int)(c:iC):
  run M 170 [.c pc,.c (I most)] [(0,lU 0 l c)]=some (.c (.sl true 1 (az (mP l most c).1)),[(0,lU 0 l (mP l most c).2)]):=by
 obtain⟨h0,k1,k2⟩:=h;have h1:=dK.ar k2 l hl most c;have hn:=pe l most c;unfold mP;generalize jf l most c=q at*;obtain⟨n,c1⟩:=q;simp only at hn ⊢;obtain⟨n,rfl⟩:=gB hn.1;simp only[fp];refine aB (b:=dm.m) h0 ⟨n+1, ?_⟩;obtain⟨g,hr⟩:=qi (f:=ct (run M) (n+1) dm.l0) n (cvar l) (KU l n) 0 (LH l n)
  (fun i hi acc c x ha=>by
   obtain⟨v,x⟩:=x;have h2:=b8.ar k1 l hl c;have e5:=cA (i:=i) (by omega);have e6:i+1≤4294967296:=by omega
   have hii:(i:Int)<n:=by omega
   simp only[aE];simp (maxSteps:=9^9) [dm.l0,KU,hii,h2,e5,e6,ha,az,ab])
  (fun acc c x ha=>by
   obtain⟨v,x⟩:=x;simp only[aE];simp (maxSteps:=9^9) [dm.l0,KU,LH]) c1
 have hlen:=kF (cvar l) n c1;simp[KU,LH,az] at hr;simp (maxSteps:=9^9) [bl,dm.m,dm.b,aa,h1,hr,hlen,az,ab]
theorem wrap_one:IntKind.i64.wrap 1=1:=wrap_i64 (by omega) (by omega)
def qZ(l:List UInt8)(c:iC):mi×iC:=(⟨(cvar l c).1,(kT l (cvar l c).2).1.1,(kT l (cvar l c).2).1.2⟩,(kT l (cvar l c).2).2)
def iX(l:List UInt8)(c:iC):bo×iC:=
 let g:=cvar l c
 let u:=cvar l g.2
 let f:=j6 (qZ l) 3 u.2
 let t:=iL l f.2
 (⟨g.1,u.1,f.1,t.1⟩,t.2)
abbrev rF:List T:=[I 0,.str ⟨#[]⟩,I 0,I 0,I 0,.aN 4,.aN 1]
abbrev rv:List T:=[I 0,I 0,.aN 3,.str ⟨#[]⟩]
structure jN where
 a:Nat
 b:Nat
 c:Nat
 d:Nat
theorem jN.ex{p:jN→Prop}:(∃x,p x)↔∃a b c d,p ⟨a,b,c,d⟩:=⟨fun⟨⟨a,b,c,d⟩,h⟩=>⟨a,b,c,d,h⟩,fun⟨a,b,c,d,h⟩=>⟨⟨a,b,c,d⟩,h⟩⟩
def J_(l:List UInt8)(g u:Int)(i:Nat)(acc:List mi)(c:iC)(x:jN):St:={t:=[(0,.c pc),(2,.c (.ptr 2 x.a 0 0)),(3,.c (.ptr 3 x.b 0 0)),(11,.c (I i))],o:=[(0,lU 0 l c),(2,⟨x.a,4,true,true,[rv]⟩),(3,⟨x.b,4,true,true,[[I g,I u,if i=0 then .aN 3 else .row 23 x.c 0 i,.str ⟨#[]⟩]]⟩)]++if i=0 then [] else [(23,⟨x.c,3,true,false,acc.map aR⟩)],n:=x.d}
def LK(l:List UInt8)(g u:Int)(acc:List mi)(c:iC)(x:jN):St:={t:=[(0,.c pc),(2,.c (.ptr 2 x.a 0 0)),(3,.c (.ptr 3 x.b 0 0)),(11,.c (I 3)),(12,.c (.bool false))],o:=[(0,lU 0 l c),(2,⟨x.a,4,true,true,[rv]⟩),(3,⟨x.b,4,true,true,[[I g,I u,.row 23 x.c 0 3,.str ⟨#[]⟩]]⟩),(23,⟨x.c,3,true,false,acc.map aR⟩)],n:=x.d}
theorem dL.ar(h:dL.k M)(l:List UInt8)(hl:l.length≤4611686018427387904)(c:iC):
  run M 223 [.c pc] [(0,lU 0 l c)]=some (.a (iv (iX l c).1),[(0,lU 0 l (iX l c).2)]):=by
 obtain⟨h0,k1,k2,k3⟩:=h;have h1:=b8.ar k1 l hl c;have h2:=b8.ar k1 l hl (cvar l c).2;refine aB (b:=dL.m) h0 ⟨4, ?_⟩;obtain⟨g,hr⟩:=qi (f:=ct (run M) 4 dL.l0) 3 (qZ l) (J_ l (cvar l c).1 (cvar l (cvar l c).2).1) 0 (LK l (cvar l c).1 (cvar l (cvar l c).2).1)
  (fun i hi acc c x ha=>by
   obtain⟨v,w,z,x⟩:=x;have h2:=b8.ar k1 l hl c;have h3:=fa.ar k3 l hl (cvar l c).2;have e5:=cA (i:=i) (by omega);have hii:(i:Int)<3:=by omega
   simp only[jN.ex];cases i with
   |zero=>
    have:acc=[]:=aZ ha;subst this;simp (maxSteps:=9^9) [dL.l0,setAt,J_,h2,h3,wrap_one,aR,qZ]
   |succ i=>
    have e6:i+1+1≤4294967296:=by omega
    have e7:(i:Int)+1<3:=by omega
    have e5:IntKind.i64.wrap ((i:Int)+1+1)=(i:Int)+1+1:=wrap_i64 (by omega) (by omega);simp (maxSteps:=9^9) [dL.l0,setAt,J_,e7,h2,h3,e5,e6,ha,aR,qZ,ab])
  (fun acc c x ha=>by
   obtain⟨v,w,z,x⟩:=x;simp only[jN.ex];simp (maxSteps:=9^9) [dL.l0,J_,LK]) (cvar l (cvar l c).2).2
 have hlen:=kF (qZ l) 3 (cvar l (cvar l c).2).2;have h4:=fb.ar k2 l hl (j6 (qZ l) 3 (cvar l (cvar l c).2).2).2;simp only[iX];generalize j6 (qZ l) 3 (cvar l (cvar l c).2).2=q at*
 replace hr:=fun a b d=>hr ⟨a,b,0,d⟩
 simp[J_,LK] at hr;simp (maxSteps:=9^9) [bl,dL.m,dL.b,aa,setAt,h1,h2,h4,hr,hlen,ab]
theorem fZ.ar(h:fZ.k M)(l:List mi)(hl:l.length≤1048576):run M 239 [.c (iZ l)] []=some (.c (.sl true 3 (l.map aR)),[]):=by
 refine aB (b:=fZ.m) h ⟨0, ?_⟩;have e:(l.map aR).length=l.length:=by simp
 have h1:l.length≤4294967296:=by omega
 simp only[iZ];generalize l.map aR=r at*;simp (maxSteps:=9^9) [bl,fZ.m,fZ.b,aa,e,h1,ab]
theorem gF.ar(h:gF.k M)(l:List mi)(hl:l.length≤1048576):run M 241 [.c (iZ l)] []=some (.c (.sl true 3 (l.map aR)),[]):=by
 refine aB (b:=gF.m) h ⟨0, ?_⟩;have e:(l.map aR).length=l.length:=by simp
 have h1:l.length≤4294967296:=by omega
 simp only[iZ];generalize l.map aR=r at*;simp (maxSteps:=9^9) [bl,gF.m,gF.b,aa,e,h1,ab]
theorem ee.ar(h:ee.k M)(m:bo)(hl:m.flags.length≤1048576):run M 233 [.a (ah m)] []=some (.a (iv m),[]):=by
 have h1:=fZ.ar h.2 m.flags hl;refine aB (b:=ee.m) h.1 ⟨0, ?_⟩;have e:(m.flags.map aR).length=m.flags.length:=by simp
 simp only[ah,iv,iZ] at*;generalize m.flags.map aR=r at*;simp (maxSteps:=9^9) [bl,ee.m,ee.b,aa,setAt,h1,e,ab]
theorem fq.ar(h:fq.k M)(m:bo)(hl:m.flags.length≤1048576):run M 238 [.a (ah m)] []=some (.a (iv m),[]):=by
 have h1:=gF.ar h.2 m.flags hl;refine aB (b:=fq.m) h.1 ⟨0, ?_⟩;have e:(m.flags.map aR).length=m.flags.length:=by simp
 simp only[ah,iv,iZ] at*;generalize m.flags.map aR=r at*;simp (maxSteps:=9^9) [bl,fq.m,fq.b,aa,setAt,h1,e,ab]
theorem ju{β γ:Type}(n:Nat){f:St→Option (Out×St)}(S:Nat→β→St)(e:Nat)(E:γ→St)
  (h1:∀i,i<n→∀x,∃y,f (S i x)=some (.normal,S (i+1) y)) (h3:∀x,∃y,f (S n x)=some (.exit e,E y)):
  ∃g:β→γ,∀x,eG f (n+1) (S 0 x)=some (.exit e,E (g x)):=by
 refine ji (f:=f) S (fun i=>i≤n) (fun i=>n-i) (fun _=>()) (fun _ m=>(.exit e,E m)) ?_ (n+1) 0 (Nat.zero_le _) (by omega);intro i x hi;by_cases hlt:i<n
 ·left;obtain⟨y,hy⟩:=h1 i hlt x;exact⟨i+1,y,hy,hlt,by omega,rfl⟩
 ·have:i=n:=by omega
  subst this;right;obtain⟨y,hy⟩:=h3 x;exact⟨y,by simp[hy],by simp⟩
def Ks(b:bz)(i:Nat)(x:jN×Nat):List (Nat×Ob):=[(1,⟨x.1.a,7,true,true,[af b]⟩),(2,⟨x.1.b,7,true,true,[rF]⟩),(3,⟨x.2,7,true,true,[[I b.gid,S b.name,I b.time,I b.eE,I b.next,.row 7 x.1.c 0 i,ints b.gone]]⟩),(7,⟨x.1.c,4,true,false,(b.ae.take i).map ah⟩)]
def K9(b:bz)(i:Nat)(x:jN×Nat):St:={t:=[(1,.c (.ptr 1 x.1.a 0 0)),(2,.c (.ptr 2 x.1.b 0 0)),(3,.c (.ptr 3 x.2 0 0)),(10,.c (ae b.ae)),(11,.c (I b.ae.length)),(12,.c (I i))],o:=Ks b i x,n:=x.1.d}
def LW(b:bz)(x:jN×Nat):St:={t:=[(1,.c (.ptr 1 x.1.a 0 0)),(2,.c (.ptr 2 x.1.b 0 0)),(3,.c (.ptr 3 x.2 0 0)),(10,.c (ae b.ae)),(11,.c (I b.ae.length)),(12,.c (I b.ae.length)),(13,.c (.bool false))],o:=Ks b b.ae.length x,n:=x.1.d}
theorem gK{α:Type}(l:List α)(i:Nat)(h:i<l.length):l.take (i+1)=l.take i++[l[i]]:=List.take_succ_eq_append_getElem h
theorem cq.ar(h:cq.k M)(b:bz)(hb:gT b):run M 155 [.a (af b)] []=some (.a (cd b),[]):=by
 obtain⟨h0,k1,k2⟩:=h;have hm:=hb.m;have h1:=eJ.ar k1 b.gone hb.g;refine aB (b:=cq.m) h0 ⟨b.ae.length+1, ?_⟩;obtain⟨g,hr⟩:=ju (f:=ct (run M) (b.ae.length+1) cq.l0) b.ae.length (K9 b) 0 (LW b)
  (fun i hi x=>by
   obtain⟨⟨v1,v2,v3,n⟩,v4⟩:=x;have h2:=ee.ar k2 b.ae[i] (hb.f _ (ax hi));have e5:=cA (i:=i) (by omega);have e6:i+1≤4294967296:=by omega
   have e7:((b.ae.take i).map ah).length=i:=by simp;omega
   have e8:((b.ae.take (i+1)).map ah)=(b.ae.take i).map ah++[ah b.ae[i]]:=by rw[gK _ _ hi,cH];rfl
   simp only[K9,Ks,e8,aE,jN.ex];generalize (b.ae.take i).map ah=rr at*;simp only[ah,iv] at h2;simp (maxSteps:=9^9) [cq.l0,aa,setAt,hi,h2,e5,e6,e7,ah,ab];exact⟨_,_,_,_,_,⟨rfl,rfl,rfl⟩,⟨rfl,rfl,rfl,rfl⟩,rfl⟩)
  (fun x=>by
   obtain⟨⟨v1,v2,v3,n⟩,v4⟩:=x;simp only[aE,jN.ex];simp (maxSteps:=9^9) [cq.l0,aa,K9,LW,Ks];exact⟨_,_,_,_,_,⟨rfl,rfl,rfl⟩,⟨rfl,rfl,rfl,rfl⟩,rfl⟩)
 have e7:(b.ae.map ah).length=b.ae.length:=by simp
 have e8:=aM b.gone;have e9:b.ae.take b.ae.length=b.ae:=by simp
 simp only[ints] at h1;simp only[K9,LW,Ks,e9,List.take_zero,bJ,ints] at hr
 replace hr:=fun a b c d n=>hr ⟨⟨a,b,c,d⟩,n⟩
 simp only[af,cd,ae,ints] at hr ⊢;generalize b.ae.map ah=rm at*;generalize az b.gone=rg at*;simp at hr;simp (maxSteps:=9^9) [bl,cq.m,cq.b,aa,setAt,hr,h1,e7,e8,ab]
def J4(b:bz)(i:Nat)(x:jN×Nat):List (Nat×Ob):=[(1,⟨x.1.a,7,true,true,[af b]⟩),(2,⟨x.1.b,7,true,true,[rF]⟩),(3,⟨x.2,7,true,true,[[I b.gid,S b.name,I b.time,I b.eE,I b.next,.row 6 x.1.c 0 i,ints b.gone]]⟩),(6,⟨x.1.c,4,true,false,(b.ae.take i).map ah⟩)]
def KP(b:bz)(i:Nat)(x:jN×Nat):St:={t:=[(1,.c (.ptr 1 x.1.a 0 0)),(2,.c (.ptr 2 x.1.b 0 0)),(3,.c (.ptr 3 x.2 0 0)),(4,.c (I i))],o:=J4 b i x,n:=x.1.d}
def Ly(b:bz)(x:jN×Nat):St:={t:=[(1,.c (.ptr 1 x.1.a 0 0)),(2,.c (.ptr 2 x.1.b 0 0)),(3,.c (.ptr 3 x.2 0 0)),(4,.c (I b.ae.length)),(12,.c (.bool false))],o:=J4 b b.ae.length x,n:=x.1.d}
theorem b6.ar(h:b6.k M)(b:bz)(hb:gT b):run M 180 [.a (af b)] []=some (.a (cd b),[]):=by
 obtain⟨h0,k2⟩:=h;have hm:=hb.m;have hg:=hb.g;refine aB (b:=b6.m) h0 ⟨b.ae.length+1, ?_⟩;obtain⟨g,hr⟩:=ju (f:=ct (run M) (b.ae.length+1) b6.l0) b.ae.length (KP b) 0 (Ly b)
  (fun i hi x=>by
   obtain⟨⟨v1,v2,v3,n⟩,v4⟩:=x;have h2:=fq.ar k2 b.ae[i] (hb.f _ (ax hi));have e5:=cA (i:=i) (by omega);have e6:i+1≤4294967296:=by omega
   have e7:((b.ae.take i).map ah).length=i:=by simp;omega
   have e8:((b.ae.take (i+1)).map ah)=(b.ae.take i).map ah++[ah b.ae[i]]:=by rw[gK _ _ hi,cH];rfl
   simp only[KP,J4,e8,aE,jN.ex];generalize (b.ae.take i).map ah=rr at*;simp only[ah,iv] at h2;simp (maxSteps:=9^9) [b6.l0,aa,setAt,hi,h2,e5,e6,e7,ah,ab];exact⟨_,_,_,_,_,⟨rfl,rfl,rfl⟩,⟨rfl,rfl,rfl,rfl⟩,rfl⟩)
  (fun x=>by
   obtain⟨⟨v1,v2,v3,n⟩,v4⟩:=x;simp only[aE,jN.ex];simp (maxSteps:=9^9) [b6.l0,aa,KP,Ly,J4];exact⟨_,_,_,_,_,⟨rfl,rfl,rfl⟩,⟨rfl,rfl,rfl,rfl⟩,rfl⟩)
 have e7:(b.ae.map ah).length=b.ae.length:=by simp
 have e8:=aM b.gone;have e9:b.ae.take b.ae.length=b.ae:=by simp
 have e6:b.gone.length≤4294967296:=by omega
 simp only[KP,Ly,J4,e9,List.take_zero,bJ,ints] at hr
 replace hr:=fun a b c d n=>hr ⟨⟨a,b,c,d⟩,n⟩
 simp only[af,cd,ae,ints] at hr ⊢;generalize b.ae.map ah=rm at*;generalize az b.gone=rg at*;simp at hr;simp (maxSteps:=9^9) [bl,b6.m,b6.b,aa,setAt,hr,e6,e7,e8,ab]
def mH(n:Int)(i:Nat):Int:=n.fdiv ((2^i:Nat):Int)%2
theorem Cg(x:Int):sP .i64 x 1=x%2:=by
 unfold sP;have h1:(BitVec.ofInt IntKind.i64.bits x&&&BitVec.ofInt IntKind.i64.bits 1).toNat=(x%2).toNat:=by
  change (BitVec.ofInt 64 x&&&BitVec.ofInt 64 1).toNat=(x%2).toNat;simp only[BitVec.toNat_and,BitVec.toNat_ofInt];have:((1:Int)%((2^64:Nat):Int)).toNat=1:=by decide
  rw[this,Nat.and_one_is_mod];have h2:(x%((2^64:Nat):Int)).toNat%2=(x%((2^64:Nat):Int)%2).toNat:=by
   have:0≤x%((2^64:Nat):Int):=Int.emod_nonneg _ (by decide);omega
  rw[h2];congr 1;have:((2^64:Nat):Int)=18446744073709551616:=by decide
  rw[this];omega
 rw[h1,wrap_i64 (by omega) (by omega)];omega
def jc(n t w:Int):List mi:=[⟨mH n 0,t,w⟩,⟨mH n 1,t,w⟩,⟨mH n 2,t,w⟩]
theorem fN.ar(h:fN.k M)(n t w:Int):run M 157 [.c (I n),.a [I t,I w]] []=some (.c (.sl true 3 ((jc n t w).map aR)),[]):=by
 refine aB (b:=fN.m) h ⟨4, ?_⟩;have w2:IntKind.i64.wrap 2=2:=wrap_i64 (by omega) (by omega);have w3:IntKind.i64.wrap 3=3:=wrap_i64 (by omega) (by omega);simp (maxSteps:=9^9) [bl,fN.m,fN.b,aa,setAt,eG,fN.l0,wrap_one,w2,w3,Cg,jc,aR,mH,IntKind.bits]
theorem y0(x:Int):(x.tmod 2=0)↔x%2=0:=
 ⟨fun h=>Int.emod_eq_zero_of_dvd (Int.dvd_of_tmod_eq_zero h),fun h=>Int.tmod_eq_zero_of_dvd (Int.dvd_of_emod_eq_zero h)⟩
theorem fL.ar(h:fL.k M)(n t w:Int):run M 181 [.c (I n),.a [I t,I w]] []=some (.c (.sl true 3 ((jc n t w).map aR)),[]):=by
 refine aB (b:=fL.m) h ⟨4, ?_⟩;have w2:IntKind.i64.wrap 2=2:=wrap_i64 (by omega) (by omega);have w3:IntKind.i64.wrap 3=3:=wrap_i64 (by omega) (by omega);have u0:IntKind.u64.wrap 0=0:=by decide
 have u1:IntKind.u64.wrap 1=1:=by decide
 have u2:IntKind.u64.wrap 2=2:=by decide
 have key:∀i:Nat,mH n i=if(n.fdiv ((2^i:Nat):Int)).tmod 2=0 then 0 else 1:=by
  intro i;unfold mH;by_cases c:(n.fdiv ((2^i:Nat):Int)).tmod 2=0
  ·rw[if_pos c];exact(y0 _).1 c
  ·rw[if_neg c];rw[y0] at c;omega
 have k0:=key 0;have k1:=key 1;have k2:=key 2;by_cases c0:(n.fdiv ((2^0:Nat):Int)).tmod 2=0<;>by_cases c1:(n.fdiv ((2^1:Nat):Int)).tmod 2=0<;>by_cases c2:(n.fdiv ((2^2:Nat):Int)).tmod 2=0<;>
  simp only[c0,c1,c2,if_true,if_false] at k0 k1 k2<;>simp at c0 c1 c2<;>
  simp (maxSteps:=9^9) [bl,fL.m,fL.b,aa,setAt,eG,fL.l0,wrap_one,w2,w3,u0,u1,u2,jc,aR,k0,k1,k2,c0,c1,c2,IntKind.bits]
def qd(l:List bo)(i:Nat):Int:=match l[i]? with|some m=>m.uid|none=>0
def iN(a b:bz)(g:Int):Bool:=match fD a.ae g with
 |none=>false
 |some i=>match fD b.ae g with
  |some k=>decide (qd a.ae i=qd b.ae k)
  |none=>decide (b.next≤qd a.ae i)
theorem dA.ar(h:dA.k M)(a b:bz)(g:Int)(ha:a.ae.length≤1048576)(hb:b.ae.length≤1048576):run M 22 [.a (af a),.a (af b),.c (I g)] []=some (.c (.bool (iN a b g)),[]):=by
 have h1:=bM.ar h.2 a g ha;have h2:=bM.ar h.2 b g hb;refine aB (b:=dA.m) h.1 ⟨0, ?_⟩;simp only[af] at h1 h2;unfold iN;cases hi:fD a.ae g with
 |none=>
  simp[hi,dy] at h1;simp[bl,dA.m,dA.b,aa,h1]
 |some i=>
  have li:=tH _ _ _ _ _ hi;simp[hi,dy] at h1;have di:¬(i:Int)<0:=by omega
  have ui:qd a.ae i=a.ae[i].uid:=by simp[qd,li]
  cases hk:fD b.ae g with
  |none=>
   simp[hk,dy] at h2;simp[bl,dA.m,dA.b,aa,h1,h2,di,li,ui,ah]
  |some k=>
   have lk:=tH _ _ _ _ _ hk;have uk:qd b.ae k=b.ae[k].uid:=by simp[qd,lk]
   simp[hk,dy] at h2;simp[bl,dA.m,dA.b,aa,h1,h2,di,li,ui,lk,uk,ah]
theorem dC.ar(h:dC.k M)(a b:bz)(g:Int)(ha:a.ae.length≤1048576)(hb:b.ae.length≤1048576):run M 23 [.a (af a),.a (af b),.c (I g)] []=some (.c (.bool (iN a b g)),[]):=by
 have h1:=cE.ar h.2 a g ha;have h2:=cE.ar h.2 b g hb;refine aB (b:=dC.m) h.1 ⟨0, ?_⟩;simp only[af] at h1 h2;unfold iN;cases hi:fD a.ae g with
 |none=>
  simp[hi,dy] at h1;simp[bl,dC.m,dC.b,aa,h1,h2]
 |some i=>
  have li:=tH _ _ _ _ _ hi;simp[hi,dy] at h1;have di:¬(i:Int)<0:=by omega
  have ui:qd a.ae i=a.ae[i].uid:=by simp[qd,li]
  cases hk:fD b.ae g with
  |none=>
   simp[hk,dy] at h2;simp[bl,dC.m,dC.b,aa,h1,h2,di,li,ui,ah]
  |some k=>
   have lk:=tH _ _ _ _ _ hk;have uk:qd b.ae k=b.ae[k].uid:=by simp[qd,lk]
   simp[hk,dy] at h2;by_cases c:a.ae[i].uid=b.ae[k].uid
   ·simp[bl,dC.m,dC.b,aa,h1,h2,di,li,ui,lk,uk,ah,c]
   ·have c':¬b.ae[k].uid=a.ae[i].uid:=fun q=>c q.symm
    simp[bl,dC.m,dC.b,aa,h1,h2,di,li,ui,lk,uk,ah,c,c']
end Mx
namespace Mx
open Go
def gX{α:Type}(k:α→Int)(acc:List α)(m:α):List α:=acc.filter (fun x=>decide (k x≤k m))++[m]++acc.filter (fun x=>decide (k m<k x))
def eT{α:Type}(k:α→Int)(l:List α):List α:=l.foldl (gX k) []
abbrev mS{α:Type}(k:α→Int)(l:List α):Prop:=l.Pairwise fun x y=>k x≤k y
theorem yI{α:Type}{k:α→Int}{acc:List α}{m:α}(h:mS k acc):mS k (gX k acc m):=by
 simp only[gX,mS,List.pairwise_append,List.pairwise_singleton,fi,decide_eq_true_eq,gu,gP];refine⟨⟨h.filter _,trivial, ?_⟩,h.filter _, ?_⟩
 ·rintro a ⟨_,ha⟩ b rfl;exact ha
 ·rintro a (⟨_,ha⟩|rfl) b ⟨_,hb⟩<;>omega
theorem vW{α:Type}{k:α→Int}(acc:List α)(m:α):(gX k acc m).Perm (m::acc):=by
 have:∀l:List α,(l.filter (fun x=>decide (k x≤k m))++l.filter (fun x=>decide (k m<k x))).Perm l:=by
  intro l;have h:=List.filter_append_perm (fun x=>decide (k x≤k m)) l;have e:(fun x=> !decide (k x≤k m))=fun x=>decide (k m<k x):=by
   funext x;rw[Bool.eq_iff_iff];simp
  rwa [e] at h
 refine List.Perm.trans ?_ ((this acc).cons m);unfold gX;rw[cP];exact List.perm_middle
theorem ue{α:Type}{k:α→Int}:∀(l acc:List α),(l.foldl (gX k) acc).Perm (l++acc)
 |[],acc=>List.Perm.refl _
 |x::l,acc=>by
  refine(ue l (gX k acc x)).trans ?_;refine((vW acc x).append_left l).trans ?_;exact List.perm_middle
theorem rE{α:Type}{k:α→Int}:∀(l acc:List α),mS k acc→mS k (l.foldl (gX k) acc)
 |[],acc,h=>h
 |x::l,acc,h=>rE l _ (yI h)
theorem nA{α:Type}{k:α→Int}(l:List α):(eT k l).Perm l:=by unfold eT;simpa using ue (k:=k) l []
theorem nu{α:Type}{k:α→Int}(l:List α):mS k (eT k l):=rE l [] List.Pairwise.nil
theorem pC{α:Type}{k:α→Int}{l:List α}{z:α}:z∈eT k l↔z∈l:=(nA l).mem_iff
theorem ij{α:Type}{k:α→Int}(l:List α):(eT k l).length=l.length:=(nA l).length_eq
abbrev Ag{α:Type}(k:α→Int)(l:List α):Prop:=l.Pairwise fun x y=>k x<k y
theorem tI{α:Type}{k:α→Int}:∀{a b:List α},Ag k a→Ag k b→(∀x,x∈a↔x∈b)→a=b
 |[],[],_,_,_=>rfl
 |[],y::b,_,_,h=>absurd ((h y).2 (bj ..)) (by simp)
 |x::a,[],_,_,h=>absurd ((h x).1 (bj ..)) (by simp)
 |x::a,y::b,ha,hb,h=>by
  obtain⟨ha1,ha2⟩:=List.pairwise_cons.1 ha;obtain⟨hb1,hb2⟩:=List.pairwise_cons.1 hb;have e:x=y:=by
   rcases List.mem_cons.1 ((h x).1 (bj ..)) with q|q
   ·exact q
   ·rcases List.mem_cons.1 ((h y).2 (bj ..)) with q'|q'
    ·exact q'.symm
    ·have:=ha1 y q';have:=hb1 x q;omega
  subst e;congr 1;refine tI ha2 hb2 fun z=>⟨fun hz=> ?_,fun hz=> ?_⟩
  ·rcases List.mem_cons.1 ((h z).1 (bp _ hz)) with q|q
   ·have:=ha1 z hz;rw[q] at this;omega
   ·exact q
  ·rcases List.mem_cons.1 ((h z).2 (bp _ hz)) with q|q
   ·have:=hb1 z hz;rw[q] at this;omega
   ·exact q
theorem oS{α:Type}{k:α→Int}:∀{l:List α},mS k l→(l.map k).Nodup→Ag k l
 |[],_,_=>List.Pairwise.nil
 |x::l,h,hn=>by
  obtain⟨h1,h2⟩:=List.pairwise_cons.1 h;rw[bE,List.nodup_cons] at hn;refine List.pairwise_cons.2 ⟨fun y hy=> ?_,oS h2 hn.2⟩;have:=h1 y hy;have:k x≠k y:=fun e=>hn.1 (by rw[e];exact gY hy)
  omega
def jX(t w u x:Int):Bool:=decide (u<t)||(decide (t=u)&&decide (x<w))
def oJ(a b:mi):mi:=if jX b.time b.eE a.time a.eE=true∨jX a.time a.eE b.time b.eE=false∧a.val<b.val then b else a
def eW(a b:List mi):List mi:=List.zipWith oJ a b
def IW(a b:List UInt8):List UInt8:=if iY a b=true then b else a
def gW(a b:bo):bo:=if a.gid=b.gid then⟨a.gid,Max.max a.uid b.uid,eW a.flags b.flags,IW a.text b.text⟩ else a
def je(l:List bo)(g:Int):Option bo:=l.find? fun m=>decide (m.gid=g)
theorem lQ{l:List bo}{g:Int}{m:bo}(h:je l g=some m):m∈l∧m.gid=g:=⟨List.mem_of_find?_eq_some h,by simpa using List.find?_some h⟩
theorem nB{l:List bo}{g:Int}:je l g=none↔∀m∈l,m.gid≠g:=by
 unfold je;rw[List.find?_eq_none];simp
theorem vJ{l:List bo}(h:(l.map (·.gid)).Nodup){m:bo}(hm:m∈l):je l m.gid=some m:=by
 induction l with
 |nil=>simp at hm
 |cons x l ih=>
  rw[bE,List.nodup_cons] at h;unfold je at ih ⊢;rw[List.find?_cons];rcases List.mem_cons.1 hm with rfl|hm
  ·simp
  ·have:x.gid≠m.gid:=fun e=>h.1 (by rw[e];exact gY hm)
   simp only[this,decide_false];exact ih h.2 hm
def e_(l:List bo):List Int:=l.map (·.gid)
def me(a b:List bo)(g:Int):bo:=match je a g,je b g with
 |some x,some y=>gW x y
 |some x,none=>x
 |none,some y=>y
 |none,none=>⟨0,0,[],[]⟩
def iJ(a b:bz)(g:Int):Bool:=(holds a g&& !iN a b g)||(holds b g&& !iN b a g)
def ln(a b:bz)(s:List bo×Int)(g:Int):List bo×Int:=
 if g∈a.gone∨g∈b.gone then s else
 if iJ a b g=true then(gX (·.uid) s.1 {me a.ae b.ae g with uid:=s.2},s.2+1) else(gX (·.uid) s.1 (me a.ae b.ae g),s.2)
def iK(a b:bz):List bo×Int:=(aQ (e_ a.ae) (e_ b.ae)).foldl (ln a b) ([],Max.max a.next b.next)
def allM(a b:List bo):List bo:=a.map (fun m=>match je b m.gid with|some y=>gW m y|none=>m)++b.filter (fun m=>(je a m.gid).isNone)
def d_(need:Int→Bool):Int→List bo→List bo×Int
 |n,[]=>([],n)
 |n,m::l=>if need m.gid=true then({m with uid:=n}::(d_ need (n+1) l).1,(d_ need (n+1) l).2) else(m::(d_ need n l).1,(d_ need n l).2)
def nT(a b:bz):List bo×Int:=
 let l:=d_ (iJ a b) (Max.max a.next b.next) (eT (·.gid) ((allM a.ae b.ae).filter fun m=> !decide (m.gid∈aQ a.gone b.gone)))
 (eT (·.uid) l.1,l.2)
theorem pN(a b:bo):(gW a b).gid=a.gid:=by unfold gW;split<;>rfl
theorem o9{a b:List bo}{g:Int}(h:g∈e_ a∨g∈e_ b):(me a b g).gid=g:=by
 unfold me;cases h1:je a g with
 |some x=>
  cases h2:je b g with
  |some y=>simp only[pN];exact(lQ h1).2
  |none=>exact(lQ h1).2
 |none=>
  cases h2:je b g with
  |some y=>exact(lQ h2).2
  |none=>
   exfalso;rw[nB] at h1 h2;rcases h with h|h
   ·obtain⟨m,hm,e⟩:=List.mem_map.1 h;exact h1 m hm e
   ·obtain⟨m,hm,e⟩:=List.mem_map.1 h;exact h2 m hm e
theorem Fe{a b:List bo}(ha:(e_ a).Nodup)(hb:(e_ b).Nodup){m:bo}:m∈allM a b↔(m.gid∈e_ a∨m.gid∈e_ b)∧m=me a b m.gid:=by
 simp only[allM,gP,nk,fi];constructor
 ·rintro (⟨x,hx,rfl⟩|⟨hm,hn⟩)
  ·have h1:=vJ ha hx;have hg:x.gid∈e_ a:=gY hx;cases h2:je b x.gid with
   |some y=>
    simp only[pN];refine⟨.inl hg, ?_⟩;simp only[me,h1,h2]
   |none=>
    simp only;refine⟨.inl hg, ?_⟩;simp only[me,h1,h2]
  ·have h1:=vJ hb hm;simp only[cp] at hn;refine⟨.inr (gY hm), ?_⟩;simp only[me,h1,hn]
 ·rintro ⟨h,e⟩;cases h1:je a m.gid with
  |some x=>
   left;obtain⟨k1,k2⟩:=lQ h1;refine⟨x,k1, ?_⟩;rw[e,k2];simp only[me,h1];cases h2:je b m.gid<;>rfl
  |none=>
   right;cases h2:je b m.gid with
   |none=>
    exfalso;rw[nB] at h1 h2;rcases h with h|h
    ·obtain⟨m',hm,e⟩:=List.mem_map.1 h;exact h1 m' hm e
    ·obtain⟨m',hm,e⟩:=List.mem_map.1 h;exact h2 m' hm e
   |some y=>
    refine⟨?_,by simp⟩;have:m=y:=by rw[e];simp only[me,h1,h2]
    rw[this];exact(lQ h2).1
theorem Br{a b:List bo}(ha:(e_ a).Nodup)(hb:(e_ b).Nodup):(e_ (allM a b)).Nodup:=by
 have e1:e_ (a.map (fun m=>match je b m.gid with|some y=>gW m y|none=>m))=e_ a:=by
  unfold e_;rw[List.map_map];apply List.map_congr_left;intro m _;simp only[Function.comp];split
  ·exact pN _ _
  ·rfl
 unfold allM;rw[e_,cH];change (e_ _++e_ _).Nodup;rw[e1,List.nodup_append];refine⟨ha, ?_, ?_⟩
 ·exact hb.sublist (List.Sublist.map _ List.filter_sublist)
 ·intro x hx y hy e;subst e;obtain⟨m,hm,rfl⟩:=List.mem_map.1 hy;rw[fi] at hm;simp only[cp,nB] at hm;obtain⟨m',hm',e⟩:=List.mem_map.1 hx;exact hm.2 m' hm' e
theorem D0{a b:bz}(ha:(e_ a.ae).Nodup)(hb:(e_ b.ae).Nodup):
  eT (·.gid) ((allM a.ae b.ae).filter fun m=> !decide (m.gid∈aQ a.gone b.gone))=((aQ (e_ a.ae) (e_ b.ae)).filter fun g=> !decide (g∈aQ a.gone b.gone)).map (me a.ae b.ae):=by
 refine tI (k:=fun m:bo=>m.gid) ?_ ?_ fun m=> ?_
 ·refine oS (nu _) ?_;have hp:=(nA (k:=fun m:bo=>m.gid) ((allM a.ae b.ae).filter fun m=> !decide (m.gid∈aQ a.gone b.gone))).map (fun m:bo=>m.gid);rw[hp.nodup_iff];exact(Br ha hb).sublist (List.Sublist.map _ List.filter_sublist)
 ·rw[Ag,List.pairwise_map];have h:=(mK (e_ a.ae) (e_ b.ae)).filter (fun g=> !decide (g∈aQ a.gone b.gone));refine List.Pairwise.imp_of_mem ?_ h;intro x y hx hy hxy;rw[fi,iq] at hx hy;rw[o9 hx.1,o9 hy.1];exact hxy
 ·rw[pC,fi,Fe ha hb,nk];constructor
  ·rintro ⟨⟨h1,h2⟩,h3⟩;exact⟨m.gid,List.mem_filter.2 ⟨(iq _ _ _).2 h1,h3⟩,h2.symm⟩
  ·rintro ⟨g,hg,rfl⟩;rw[fi,iq] at hg;have:=o9 hg.1;rw[this];exact⟨⟨hg.1,rfl⟩,hg.2⟩
theorem ud(a b:bz):∀(gs:List Int) (acc:List bo) (n:Int),(∀g∈gs,g∈e_ a.ae∨g∈e_ b.ae)→
  gs.foldl (ln a b) (acc,n)=((d_ (iJ a b) n ((gs.filter fun g=> !decide (g∈aQ a.gone b.gone)).map (me a.ae b.ae))).1.foldl (gX (·.uid)) acc,(d_ (iJ a b) n ((gs.filter fun g=> !decide (g∈aQ a.gone b.gone)).map (me a.ae b.ae))).2)
 |[],acc,n,_=>by simp[d_]
 |g::gs,acc,n,h=>by
  have ih:=fun acc n=>ud a b gs acc n fun g hg=>h g (bp _ hg)
  have hg:=o9 (h g (bj ..));rw[eH,ln,h_];by_cases c:g∈a.gone∨g∈b.gone
  ·have c':g∈aQ a.gone b.gone:=(iq _ _ _).2 c;rw[if_pos c,ih];simp[c']
  ·have c':¬g∈aQ a.gone b.gone:=fun q=>c ((iq _ _ _).1 q)
   rw[if_neg c];simp only[c',decide_false,Bool.not_false,if_true,bE,d_,hg];by_cases c2:iJ a b g=true
   ·rw[if_pos c2,if_pos c2,ih];rfl
   ·rw[if_neg c2,if_neg c2,ih];rfl
theorem o8{a b:bz}(ha:(e_ a.ae).Nodup)(hb:(e_ b.ae).Nodup):nT a b=iK a b:=by
 unfold nT iK;rw[D0 ha hb,ud a b _ _ _ fun g hg=>(iq _ _ _).1 hg];rfl
def gH(a b:bz):bz:=if a.gid=b.gid then
    {gid:=a.gid,name:=if jX b.time b.eE a.time a.eE=true∨jX a.time a.eE b.time b.eE=false∧iY a.name b.name=true then b.name else a.name,
     time:=if jX b.time b.eE a.time a.eE=true∨jX a.time a.eE b.time b.eE=false∧iY a.name b.name=true then b.time else a.time,
     eE:=if jX b.time b.eE a.time a.eE=true∨jX a.time a.eE b.time b.eE=false∧iY a.name b.name=true then b.eE else a.eE,
     next:=(iK a b).2,ae:=(iK a b).1,gone:=aQ a.gone b.gone} else a
end Mx
namespace Mx
open Go
variable {M:Nat→Option Body}
theorem fJ.ar(h:fJ.k M)(t w u x:Int):run M 275 [.a [I t,I w],.a [I u,I x]] []=some (.c (.bool (jX t w u x)),[]):=by
 refine aB (b:=fJ.m) h ⟨0, ?_⟩;unfold jX;by_cases c1:u<t
 ·simp (maxSteps:=9^9) [bl,fJ.m,fJ.b,aa,c1]
 by_cases c2:t=u
 ·subst c2;simp (maxSteps:=9^9) [bl,fJ.m,fJ.b,aa]
 ·simp (maxSteps:=9^9) [bl,fJ.m,fJ.b,aa,c1,c2]
theorem gL.ar(h:gL.k M)(t w u x:Int):run M 277 [.a [I t,I w],.a [I u,I x]] []=some (.c (.bool (jX t w u x)),[]):=by
 refine aB (b:=gL.m) h ⟨0, ?_⟩;unfold jX;by_cases c2:t=u
 ·subst c2;simp (maxSteps:=9^9) [bl,gL.m,gL.b,aa]
 ·simp (maxSteps:=9^9) [bl,gL.m,gL.b,aa,c2]
def vB(r:mi)(v t w:Int):mi:=if jX t w r.time r.eE=true∧nN ⟨v,t,w⟩=true then⟨v,t,w⟩ else r
theorem iG.ar(h:iG.k M)(r:mi)(v t w:Int):run M 240 [.a (aR r),.c (I v),.a [I t,I w]] []=some (.a (aR (vB r v t w)),[]):=by
 obtain⟨h0,k1,k2⟩:=h;have h1:=iF.ar k1 ⟨v,t,w⟩;have h2:=fJ.ar k2 t w r.time r.eE;refine aB (b:=iG.m) h0 ⟨0, ?_⟩;unfold vB;simp only[aR] at h1;generalize jX t w r.time r.eE=a at*;generalize nN ⟨v,t,w⟩=b at*;cases a<;>cases b<;>simp (maxSteps:=9^9) [bl,iG.m,iG.b,aa,setAt,h1,h2,aR]
theorem iE.ar(h:iE.k M)(r:mi)(v t w:Int):run M 243 [.a (aR r),.c (I v),.a [I t,I w]] []=some (.a (aR (vB r v t w)),[]):=by
 obtain⟨h0,k1,k2⟩:=h;have h1:=iD.ar k1 ⟨v,t,w⟩;have h2:=gL.ar k2 t w r.time r.eE;refine aB (b:=iE.m) h0 ⟨0, ?_⟩;unfold vB;simp only[aR] at h1;generalize jX t w r.time r.eE=a at*;generalize nN ⟨v,t,w⟩=b at*;cases a<;>cases b<;>simp (maxSteps:=9^9) [bl,iE.m,iE.b,aa,setAt,h1,h2,aR]
def oF(n t w:Int)(i:Nat)(r:mi):mi:=if r.val=mH n i then r else vB r (mH n i) t w
def lL(l:List mi)(n t w:Int):List mi:=if lH l=true∧jE 0 n 7=true then l.mapIdx (oF n t w) else l
def jA(l:List mi)(n t w:Int)(k:Nat):List mi:=l.mapIdx fun i r=>if i<k then oF n t w i r else r
theorem vo(l:List mi)(n t w:Int):jA l n t w 0=l:=by
 unfold jA;simp[List.mapIdx_eq_iff]
theorem xz(l:List mi)(n t w:Int):jA l n t w l.length=l.mapIdx (oF n t w):=by
 unfold jA;apply List.ext_getElem
 ·simp
 ·intro i h1 h2;simp at h1 ⊢;intro h;omega
theorem qF(l:List mi)(n t w:Int)(k:Nat):(jA l n t w k).length=l.length:=by simp[jA]
theorem zc(l:List mi)(n t w:Int)(k:Nat)(h:k<l.length):(jA l n t w k)[k]'(by simpa [jA] using h)=l[k]:=by simp[jA]
theorem vq(l:List mi)(n t w:Int)(k:Nat)(h:k<l.length):jA l n t w (k+1)=(jA l n t w k).set k (oF n t w k l[k]):=by
 unfold jA;apply List.ext_getElem
 ·simp
 ·intro i h1 h2;simp only[List.getElem_mapIdx,List.getElem_set];by_cases c:k=i
  ·subst c;simp
  ·rw[if_neg c];by_cases c2:i<k
   ·rw[if_pos c2,if_pos (by omega)]
   ·rw[if_neg c2,if_neg (by omega)]
def Jz(l:List mi)(n t w:Int)(i:Nat)(x:Nat×Nat×Nat):St:={t:=[(1,.c (I n)),(5,.c (.ptr 5 x.1 0 0)),(7,.c (.row 11200 x.2.1 0 l.length)),(22,.c (.row 11200 x.2.1 0 l.length)),(23,.c (I l.length)),(24,.c (I i))],o:=[(5,⟨x.1,2,true,true,[[I t,I w]]⟩),(11200,⟨x.2.1,3,true,false,(jA l n t w i).map aR⟩)],n:=x.2.2}
def Lw(l:List mi)(n t w:Int)(x:Nat×Nat×Nat):St:={t:=[(1,.c (I n)),(5,.c (.ptr 5 x.1 0 0)),(7,.c (.row 11200 x.2.1 0 l.length)),(22,.c (.row 11200 x.2.1 0 l.length)),(23,.c (I l.length)),(24,.c (I l.length)),(25,.c (.bool false))],o:=[(5,⟨x.1,2,true,true,[[I t,I w]]⟩),(11200,⟨x.2.1,3,true,false,(jA l n t w l.length).map aR⟩)],n:=x.2.2}
theorem zS(n:Int)(i:Nat):0≤mH n i∧mH n i≤1:=by unfold mH;omega
theorem cL.Is(k:iG.k M)(l:List mi)(n t w:Int)(K i:Nat)(hl:l.length=3)(hi:i<l.length)(x:Nat×Nat×Nat):
  ∃y,ct (run M) K cL.l0 (Jz l n t w i x)=some (.normal,Jz l n t w (i+1) y):=by
 obtain⟨v,u,x⟩:=x;have e5:=cA (i:=i) (by omega);have h1:=iG.ar k l[i] (mH n i) t w;have hlen:((jA l n t w i).map aR).length=l.length:=by simp[qF]
 have hi2:i<((jA l n t w i).map aR).length:=by omega
 have hat:((jA l n t w i).map aR)[i]'hi2=aR l[i]:=by rw[fA,zc]
 have hat2:((jA l n t w i).map aR)[i]? =some (aR l[i]):=by rw[cB hi2,hat]
 have hset:(jA l n t w (i+1)).map aR=((jA l n t w i).map aR).set i (aR (oF n t w i l[i])):=by rw[vq _ _ _ _ _ hi,gZ]
 have hb:=zS n i;have hbit:sP .i64 (n.fdiv ((2^i:Nat):Int)) 1=mH n i:=Cg _;have hmin:Min.min i 64=i:=by omega
 simp only[Jz,hset,oF,aE];generalize (jA l n t w i).map aR=rr at*;have hbit2:sP .i64 (n.fdiv (2^i)) 1=mH n i:=by rw[←hbit];norm_cast
 have hii:(i:Int)<3:=by omega
 have h3:i<3:=by omega
 have hng:¬(i:Int)<0:=by omega
 simp only[aR] at h1 hat hat2;by_cases c:l[i].val=mH n i
 ·rw[if_pos c];have hself:rr.set i [I l[i].val,I l[i].time,I l[i].eE]=rr:=by
   apply List.ext_getElem?;intro j;rw[List.getElem?_set];split
   ·rename_i hj;subst hj;simp[hi2,hat]
   ·rfl
  rw[hself];simp (maxSteps:=9^9) [cL.l0,setAt,hl,hlen,hat,e5,hmin,hbit2,hii,h3,hng,c,IntKind.bits]
 ·rw[if_neg c];simp (maxSteps:=9^9) [cL.l0,setAt,hl,hlen,hat,e5,hmin,hbit2,hii,h3,hng,c,h1,aR,IntKind.bits]
end Mx
namespace Mx
open Go
theorem td{t w u x:Int}:jX t w u x=true↔u<t∨t=u∧x<w:=by
 simp[jX]
theorem xJ{t w u x:Int}:jX t w u x=false↔¬(u<t∨t=u∧x<w):=by
 rw[←td];simp
theorem rW:∀a,iY a a=false
 |[]=>rfl
 |x::a=>by simp[iY,rW a]
theorem xY:∀a b,iY a b=true∧iY b a=false∨iY a b=false∧iY b a=true∨iY a b=false∧iY b a=false∧a=b
 |[],[]=>by simp[iY]
 |[],_::_=>by simp[iY]
 |_::_,[]=>by simp[iY]
 |x::a,y::b=>by
  have ih:=xY a b;simp only[iY];by_cases h1:x<y
  ·have h2:¬y<x:=by rw[UInt8.lt_iff_toNat_lt] at*;omega
   have h3:(y==x)=false:=by
    rw[beq_eq_false_iff_ne];rintro rfl;exact h2 h1
   left;simp[h1,h2,h3]
  ·by_cases h2:y<x
   ·have h3:(x==y)=false:=by
     rw[beq_eq_false_iff_ne];rintro rfl;exact h1 h2
    right;left;simp[h1,h2,h3]
   ·have h3:x=y:=by
     rw[←UInt8.toNat_inj];rw[UInt8.lt_iff_toNat_lt] at*;omega
    subst h3;simpa [h1] using ih
end Mx
namespace Mx
open Go
variable {M:Nat→Option Body}
theorem gI.ar(h:gI.k M)(a b:mi):run M 485 [.a (aR a),.a (aR b)] []=some (.a (aR (oJ a b)),[]):=by
 obtain⟨h0,k1⟩:=h;have h1:=fJ.ar k1 b.time b.eE a.time a.eE;have h2:=fJ.ar k1 a.time a.eE b.time b.eE;refine aB (b:=gI.m) h0 ⟨0, ?_⟩;unfold oJ;generalize jX b.time b.eE a.time a.eE=x at*;generalize jX a.time a.eE b.time b.eE=y at*;by_cases c:a.val<b.val
 ·cases x<;>cases y<;>simp (maxSteps:=9^9) [bl,gI.m,gI.b,aa,setAt,h1,h2,aR,c]
 ·cases x<;>cases y<;>simp (maxSteps:=9^9) [bl,gI.m,gI.b,aa,setAt,h1,h2,aR,c]
theorem yE(a b:mi):oJ a b=if jX a.time a.eE b.time b.eE=true∨(a.time=b.time∧a.eE=b.eE)∧b.val≤a.val then a else b:=by
 unfold oJ;simp only[td,xJ];by_cases h1:a.time<b.time∨b.time=a.time∧a.eE<b.eE
 ·rw[if_pos (.inl h1),if_neg (by omega)]
 ·by_cases h2:b.time<a.time∨a.time=b.time∧b.eE<a.eE
  ·rw[if_neg (by omega),if_pos (.inl h2)]
  ·by_cases h3:a.val<b.val
   ·rw[if_pos (.inr ⟨h2,h3⟩),if_neg (by omega)]
   ·rw[if_neg (by omega),if_pos (by omega)]
theorem fW.ar(h:fW.k M)(a b:mi):run M 488 [.a (aR a),.a (aR b)] []=some (.a (aR (oJ a b)),[]):=by
 obtain⟨h0,k1⟩:=h;have h2:=gL.ar k1 a.time a.eE b.time b.eE;refine aB (b:=fW.m) h0 ⟨0, ?_⟩;rw[yE];obtain⟨av,t,w⟩:=a;obtain⟨bv,u,x⟩:=b;simp only at*;generalize jX t w u x=y at*;by_cases c2:t=u
 ·subst c2;by_cases c3:w=x
  ·subst c3;by_cases c:bv≤av<;>cases y<;>simp (maxSteps:=9^9) [bl,fW.m,fW.b,aa,setAt,h2,aR,c]
  ·cases y<;>simp (maxSteps:=9^9) [bl,fW.m,fW.b,aa,setAt,h2,aR,c3]
 ·cases y<;>simp (maxSteps:=9^9) [bl,fW.m,fW.b,aa,setAt,h2,aR,c2]
theorem oQ(a b:List mi):(eW a b).length=Min.min a.length b.length:=by simp[eW]
def FO(a b:List mi)(i:Nat)(x:Nat×Nat):St:={t:=[(0,.c (iZ a)),(1,.c (iZ b)),(5,.c (.row 7 x.1 0 i)),(6,.c (I i))],o:=[(7,⟨x.1,3,true,false,((eW a b).take i).map aR⟩)],n:=x.2}
def H9(a b:List mi)(x:Nat×Nat):St:={t:=[(0,.c (iZ a)),(1,.c (iZ b)),(5,.c (.row 7 x.1 0 (Min.min a.length b.length))),(6,.c (I (Min.min a.length b.length:Nat))),(17,.c (.bool false))],o:=[(7,⟨x.1,3,true,false,((eW a b).take (Min.min a.length b.length)).map aR⟩)],n:=x.2}
theorem dQ.ar(h:dQ.k M)(a b:List mi)(ha:a.length≤1048576)(hb:b.length≤1048576):run M 470 [.c (iZ a),.c (iZ b)] []=some (.c (.sl true 3 ((eW a b).map aR)),[]):=by
 obtain⟨h0,k1⟩:=h;refine aB (b:=dQ.m) h0 ⟨Min.min a.length b.length+1, ?_⟩;have hlen:=oQ a b;obtain⟨g,hr⟩:=ju (f:=ct (run M) (Min.min a.length b.length+1) dQ.l0) (Min.min a.length b.length) (FO a b) 0 (H9 a b)
  (fun i hi x=>by
   obtain⟨v,n⟩:=x;have hia:i<a.length:=by omega
   have hib:i<b.length:=by omega
   have h1:=gI.ar k1 a[i] b[i];have e5:=cA (i:=i) (by omega);have e6:i+1≤4294967296:=by omega
   have e7:(((eW a b).take i).map aR).length=i:=by simp[hlen];omega
   have e8:(((eW a b).take (i+1)).map aR)=((eW a b).take i).map aR++[aR (oJ a[i] b[i])]:=by
    rw[gK _ _ (by rw[hlen];exact hi),cH];simp[eW]
   simp only[FO,e8,aE];generalize ((eW a b).take i).map aR=rr at*;simp only[aR] at h1;simp (maxSteps:=9^9) [dQ.l0,aa,iZ,hia,hib,h1,e5,e6,e7,aR,ab])
  (fun x=>by
   obtain⟨v,n⟩:=x;simp only[aE];by_cases c:a.length≤b.length
   ·have e:Min.min a.length b.length=a.length:=by omega
    simp only[FO,H9,e];simp (maxSteps:=9^9) [dQ.l0,aa,iZ]
   ·have e:Min.min a.length b.length=b.length:=by omega
    have c2:b.length<a.length:=by omega
    simp only[FO,H9,e];simp (maxSteps:=9^9) [dQ.l0,aa,iZ,c2])
 have hr0:=hr (2000016,2000064);obtain⟨v,n⟩:=g (2000016,2000064);have e9:(eW a b).take (Min.min a.length b.length)=eW a b:=ab (by omega);have e10:((eW a b).map aR).length=Min.min a.length b.length:=by simp[hlen]
 simp only[FO,H9,e9,List.take_zero,bJ] at hr0;generalize (eW a b).map aR=rr at*;generalize Min.min a.length b.length=k at*;simp at hr0;simp (maxSteps:=9^9) [bl,dQ.m,dQ.b,aa,hr0,e10,ab]
theorem dJ.ar(h:dJ.k M)(a b:List mi)(ha:a.length≤1048576)(hb:b.length≤1048576):run M 472 [.c (iZ a),.c (iZ b)] []=some (.c (.sl true 3 ((eW a b).map aR)),[]):=by
 obtain⟨h0,k1⟩:=h;refine aB (b:=dJ.m) h0 ⟨Min.min a.length b.length+1, ?_⟩;have hlen:=oQ a b;obtain⟨g,hr⟩:=ju (f:=ct (run M) (Min.min a.length b.length+1) dJ.l0) (Min.min a.length b.length) (FO a b) 0 (H9 a b)
  (fun i hi x=>by
   obtain⟨v,n⟩:=x;have hia:i<a.length:=by omega
   have hib:i<b.length:=by omega
   have h1:=fW.ar k1 a[i] b[i];have e5:=cA (i:=i) (by omega);have e6:i+1≤4294967296:=by omega
   have e7:(((eW a b).take i).map aR).length=i:=by simp[hlen];omega
   have e8:(((eW a b).take (i+1)).map aR)=((eW a b).take i).map aR++[aR (oJ a[i] b[i])]:=by
    rw[gK _ _ (by rw[hlen];exact hi),cH];simp[eW]
   simp only[FO,e8,aE];generalize ((eW a b).take i).map aR=rr at*;simp only[aR] at h1;simp (maxSteps:=9^9) [dJ.l0,aa,iZ,hia,hib,h1,e5,e6,e7,aR,ab])
  (fun x=>by
   obtain⟨v,n⟩:=x;simp only[aE];by_cases c:a.length≤b.length
   ·have e:Min.min a.length b.length=a.length:=by omega
    simp only[FO,H9,e];simp (maxSteps:=9^9) [dJ.l0,aa,iZ]
   ·have e:Min.min a.length b.length=b.length:=by omega
    have c2:b.length<a.length:=by omega
    simp only[FO,H9,e];simp (maxSteps:=9^9) [dJ.l0,aa,iZ,c2])
 have hr0:=hr (2000016,2000064);obtain⟨v,n⟩:=g (2000016,2000064);have e9:(eW a b).take (Min.min a.length b.length)=eW a b:=ab (by omega);have e10:((eW a b).map aR).length=Min.min a.length b.length:=by simp[hlen]
 simp only[FO,H9,e9,List.take_zero,bJ] at hr0;generalize (eW a b).map aR=rr at*;generalize Min.min a.length b.length=k at*;simp at hr0;simp (maxSteps:=9^9) [bl,dJ.m,dJ.b,aa,hr0,e10,ab]
theorem tF(a b:List UInt8):(!iY b a&& !decide (b=a))=iY a b:=by
 rcases xY a b with⟨h1,h2⟩|⟨h1,h2⟩|⟨h1,h2,h3⟩
 ·have:¬b=a:=by rintro rfl;rw[rW] at h1;cases h1
  simp[h1,h2,this]
 ·simp[h1,h2]
 ·simp[h3,rW]
theorem ql(a b:bo):(gW a b).flags.length≤a.flags.length:=by
 unfold gW;split
 ·simp only[oQ];omega
 ·exact Nat.le_refl _
theorem fg.ar(h:fg.k M)(a b:bo)(ha:a.flags.length≤1048576)(hb:b.flags.length≤1048576):run M 452 [.a (ah a),.a (ah b)] []=some (.a (iv (gW a b)),[]):=by
 obtain⟨h0,k1,k2⟩:=h;have h1:=ee.ar k1 a ha;have h2:=dQ.ar k2 a.flags b.flags ha hb;refine aB (b:=fg.m) h0 ⟨0, ?_⟩;unfold gW;by_cases c:a.gid=b.gid
 ·rw[if_pos c];simp only[ah,iv,iZ,IW] at*;have e1:((eW a.flags b.flags).map aR).length=(eW a.flags b.flags).length:=by simp
  generalize (eW a.flags b.flags).map aR=rf at*;generalize a.flags.map aR=ra at*;generalize b.flags.map aR=rb at*;have e2:Max.max a.uid b.uid=if b.uid>a.uid then b.uid else a.uid:=by split<;>omega
  rw[e2];by_cases c2:a.uid<b.uid
  ·cases c3:iY a.text b.text<;>simp (maxSteps:=9^9) [bl,fg.m,fg.b,aa,setAt,h2,c,c2,c3,e1,max2,ab]
  ·cases c3:iY a.text b.text<;>simp (maxSteps:=9^9) [bl,fg.m,fg.b,aa,setAt,h2,c,c2,c3,e1,max2,ab]
 ·rw[if_neg c];have e1:(a.flags.map aR).length=a.flags.length:=by simp
  simp only[ah,iv,iZ] at*;generalize a.flags.map aR=ra at*;generalize b.flags.map aR=rb at*;simp (maxSteps:=9^9) [bl,fg.m,fg.b,aa,setAt,h1,c,e1,ab]
theorem ff.ar(h:ff.k M)(a b:bo)(ha:a.flags.length≤1048576)(hb:b.flags.length≤1048576):run M 461 [.a (ah a),.a (ah b)] []=some (.a (iv (gW a b)),[]):=by
 obtain⟨h0,k1,k2⟩:=h;have h1:=fq.ar k1 a ha;have h2:=dJ.ar k2 a.flags b.flags ha hb;refine aB (b:=ff.m) h0 ⟨0, ?_⟩;unfold gW;by_cases c:a.gid=b.gid
 ·rw[if_pos c];simp only[ah,iv,iZ,IW] at*;have e1:((eW a.flags b.flags).map aR).length=(eW a.flags b.flags).length:=by simp
  have e3:(a.flags.map aR).length=a.flags.length:=by simp
  generalize (eW a.flags b.flags).map aR=rf at*;generalize a.flags.map aR=ra at*;generalize b.flags.map aR=rb at*;have e2:Max.max a.uid b.uid=if a.uid<b.uid then b.uid else a.uid:=by split<;>omega
  rw[e2];rw[c] at h1;have e4:=tF a.text b.text;by_cases c2:a.uid<b.uid
  ·cases c3:iY a.text b.text<;>simp (maxSteps:=9^9) [bl,ff.m,ff.b,aa,setAt,h1,h2,c,c2,c3,e1,e3,e4,ab]
  ·cases c3:iY a.text b.text<;>simp (maxSteps:=9^9) [bl,ff.m,ff.b,aa,setAt,h1,h2,c,c2,c3,e1,e3,e4,ab]
 ·rw[if_neg c];have e1:(a.flags.map aR).length=a.flags.length:=by simp
  simp only[ah,iv,iZ] at*;generalize a.flags.map aR=ra at*;generalize b.flags.map aR=rb at*;simp (maxSteps:=9^9) [bl,ff.m,ff.b,aa,setAt,h1,c,e1,ab]
end Mx
namespace Mx
open Go
theorem kq{σ:Type}{f:St→Option (Out×St)}(S:σ→St)(Inv:σ→Prop)(μ:σ→Nat)(Post:Out×St→Prop)
  (h:∀s,Inv s→(∃s',f (S s)=some (.normal,S s')∧Inv s'∧μ s'<μ s)∨(∃r,f (S s)=some r∧r.1≠.normal∧Post r)):
  ∀m s,Inv s→μ s<m→∃r,eG f m (S s)=some r∧Post r
 |0,s,_,hm=>by omega
 |m+1,s,hi,hm=>by
  rcases h s hi with⟨s',h1,h2,h3⟩|⟨⟨o,r⟩,h1,h2,h3⟩
  ·obtain⟨r,q1,q2⟩:=kq S Inv μ Post h m s' h2 (by omega);exact⟨r,by simp only[eG,h1];exact q1,q2⟩
  ·refine⟨(o,r), ?_,h3⟩;simp only[eG,h1];cases o with
   |normal=>exact(h2 rfl).elim
   |_=>rfl
end Mx
namespace Mx
open Go
variable {M:Nat→Option Body}
def qx(x y:Int):Int:=if x<y then -1 else if y<x then 1 else 0
theorem sM{x y:Int}:qx x y<0↔x<y:=by unfold qx;split<;>(try split)<;>omega
theorem eP.ar(h:eP.k M)(x y:Int):run M 457 [.c (I x),.c (I y)] []=some (.c (I (qx x y)),[]):=by
 refine aB (b:=eP.m) h ⟨0, ?_⟩;unfold qx;by_cases c:x<y
 ·simp (maxSteps:=9^9) [bl,eP.m,eP.b,aa,c]
 ·by_cases c2:y<x
  ·simp (maxSteps:=9^9) [bl,eP.m,eP.b,aa,c,c2]
  ·simp (maxSteps:=9^9) [bl,eP.m,eP.b,aa,c,c2]
theorem gz.ar(h:gz.k M)(x y:bo):run M 456 [.a (ah x),.a (ah y)] []=some (.c (I (qx x.gid y.gid)),[]):=by
 have h1:=eP.ar h.2 x.gid y.gid;refine aB (b:=gz.m) h.1 ⟨0, ?_⟩;simp (maxSteps:=9^9) [bl,gz.m,gz.b,aa,h1,ah]
theorem gw.ar(h:gw.k M)(x y:bo):run M 458 [.a (ah x),.a (ah y)] []=some (.c (I (qx x.uid y.uid)),[]):=by
 have h1:=eP.ar h.2 x.uid y.uid;refine aB (b:=gw.m) h.1 ⟨0, ?_⟩;simp (maxSteps:=9^9) [bl,gw.m,gw.b,aa,h1,ah]
theorem vV{α:Type}{k:α→Int}(P:List α)(y x:α)(Q:List α)(h:k x<k y):gX k (P++[y]) x++Q=gX k P x++(y::Q):=by
 have h1:¬k y≤k x:=by omega
 simp[gX,List.filter_append,h,h1]
theorem vU{α:Type}{k:α→Int}(P:List α)(x:α)(h:∀y∈P,k y≤k x):gX k P x=P++[x]:=by
 have h1:P.filter (fun z=>decide (k z≤k x))=P:=List.filter_eq_self.2 fun y hy=>by simpa using h y hy
 have h2:P.filter (fun z=>decide (k x<k z))=[]:=List.filter_eq_nil_iff.2 fun y hy=>by have:=h y hy;simp;omega
 simp[gX,h1,h2]
structure Lk where
 j:Nat
 D:List bo
 n:Nat
def JP(f N i:Nat)(Z:List (List T))(s:Lk):St:={t:=[(0,.c (.row 0 0 0 N)),(1,.c (I 0)),(2,.c (I N)),(3,.c (.fn f [])),(8,.c (I i)),(9,.c (I s.j))],o:=[(0,⟨0,4,true,false,s.D.map ah++Z⟩)],n:=s.n}
def LU(f N i:Nat)(Z:List (List T))(s:Lk):St:={t:=[(0,.c (.row 0 0 0 N)),(1,.c (I 0)),(2,.c (I N)),(3,.c (.fn f [])),(8,.c (I i)),(9,.c (I s.j)),(34,.c (.bool false))],o:=[(0,⟨0,4,true,false,s.D.map ah++Z⟩)],n:=s.n}
structure Mg (k:bo→Int) (N:Nat) (R:List bo) (s:Lk):Prop where
 len:s.D.length=N
 lt:s.j<N
 e:∃P x Q,P.length=s.j∧s.D=P++x::Q∧mS k P∧gX k P x++Q=R
theorem yz{α β:Type}{f:α→β}{P Q:List α}{x:α}{l:List β}(h:l=(P++x::Q).map f)(i:Nat)(hi:i=P.length):∀hh,l[i]'hh=f x:=by
 subst h;subst hi;intro hh;simp
theorem G8{f:Nat}{g u g' u':Int}{fl fl':List (List T)}{tx tx':List UInt8}{c:Int}
  (hcmp:run M f [.a [I g,I u,.sl false 3 fl,S tx],.a [I g',I u',.sl false 3 fl',S tx']] []=some (.c (I c),[])) (hc:c<0) (m N i j p:Nat) (hN:N≤1048576) (rr:List (List T)) (e1:IntKind.i64.wrap ((j:Int)-1)=(p:Int)) (hj:j<N) (hp:p<N) (h0:0<j) (e2:j<rr.length) (e3:p<rr.length) (hne:¬j=p) (hne':¬p=j)
  (a1:∀hh,rr[p]'hh=[I g',I u',.sl false 3 fl',S tx']) (a2:∀hh,rr[j]'hh=[I g,I u,.sl false 3 fl,S tx]) (n:Nat):
  ∃n',ct (run M) m ao.l1 {t:=[(0,.c (.row 0 0 0 N)),(1,.c (I 0)),(2,.c (I N)),(3,.c (.fn f [])),(8,.c (I i)),(9,.c (I j))],o:=[(0,⟨0,4,true,false,rr⟩)],n:=n}=
   some (.normal,{t:=[(0,.c (.row 0 0 0 N)),(1,.c (I 0)),(2,.c (I N)),(3,.c (.fn f [])),(8,.c (I i)),(9,.c (I p))],o:=[(0,⟨0,4,true,false,(rr.set j [I g',I u',.sl false 3 fl',S tx']).set p [I g,I u,.sl false 3 fl,S tx]⟩)],n:=n'}):=by
 simp (maxSteps:=9^9) [ao.l1,aa,setAt,hcmp,hc,a1,a2,e1,e2,e3,hj,hp,h0,hne]
theorem G9{f:Nat}{g u g' u':Int}{fl fl':List (List T)}{tx tx':List UInt8}{c:Int}
  (hcmp:run M f [.a [I g,I u,.sl false 3 fl,S tx],.a [I g',I u',.sl false 3 fl',S tx']] []=some (.c (I c),[])) (hc:¬c<0) (m N i j p:Nat) (hN:N≤1048576) (rr:List (List T)) (e1:IntKind.i64.wrap ((j:Int)-1)=(p:Int)) (hj:j<N) (hp:p<N) (h0:0<j) (e2:j<rr.length) (e3:p<rr.length) (hne:¬j=p) (hne':¬p=j)
  (a1:∀hh,rr[p]'hh=[I g',I u',.sl false 3 fl',S tx']) (a2:∀hh,rr[j]'hh=[I g,I u,.sl false 3 fl,S tx]) (n:Nat):
  ∃n',ct (run M) m ao.l1 {t:=[(0,.c (.row 0 0 0 N)),(1,.c (I 0)),(2,.c (I N)),(3,.c (.fn f [])),(8,.c (I i)),(9,.c (I j))],o:=[(0,⟨0,4,true,false,rr⟩)],n:=n}=
   some (.exit 2,{t:=[(0,.c (.row 0 0 0 N)),(1,.c (I 0)),(2,.c (I N)),(3,.c (.fn f [])),(8,.c (I i)),(9,.c (I j)),(34,.c (.bool false))],o:=[(0,⟨0,4,true,false,rr⟩)],n:=n'}):=by
 simp (maxSteps:=9^9) [ao.l1,aa,hcmp,hc,a1,a2,e1,e2,e3,hj,hp,h0]
theorem I8{f:Nat}(m N i:Nat)(rr:List (List T))(n:Nat):
  ∃n',ct (run M) m ao.l1 {t:=[(0,.c (.row 0 0 0 N)),(1,.c (I 0)),(2,.c (I N)),(3,.c (.fn f [])),(8,.c (I i)),(9,.c (I 0))],o:=[(0,⟨0,4,true,false,rr⟩)],n:=n}=
   some (.exit 2,{t:=[(0,.c (.row 0 0 0 N)),(1,.c (I 0)),(2,.c (I N)),(3,.c (.fn f [])),(8,.c (I i)),(9,.c (I 0)),(34,.c (.bool false))],o:=[(0,⟨0,4,true,false,rr⟩)],n:=n'}):=by
 simp (maxSteps:=9^9) [ao.l1,aa]
theorem zb{α β:Type}(e:α→β)(P:List α)(x y:α)(Q:List α):(((P++y::x::Q).map e).set (P.length+1) (e y)).set P.length (e x)=(P++x::y::Q).map e:=by
 apply List.ext_getElem
 ·simp
 ·intro q h1 h2;simp only[List.getElem_set,cH,bE,List.getElem_append,fP];by_cases q1:P.length=q
  ·subst q1;simp
  ·by_cases q2:P.length+1=q
   ·subst q2;have q4:¬P.length+1<P.length:=by omega
    have q5:P.length+1-P.length=1:=by omega
    simp[q4,q5]
   ·by_cases q3:q<P.length
    ·simp[q1,q2,q3]
    ·obtain⟨w,rfl⟩:∃w,q=P.length+2+w:=⟨q-P.length-2,by omega⟩
     have:P.length+2+w-P.length=w+2:=by omega
     simp[q1,q2,q3,this]
theorem G7{f:Nat}{k:bo→Int}(hf:∀x y:bo,run M f [.a (ah x),.a (ah y)] []=some (.c (I (qx (k x) (k y))),[]))(m N i:Nat)(hN:N≤1048576)(Z:List (List T))(R:List bo)(s:Lk)(hs:Mg k N R s):
  (∃s',ct (run M) m ao.l1 (JP f N i Z s)=some (.normal,JP f N i Z s')∧Mg k N R s'∧s'.j<s.j)∨
   (∃r,ct (run M) m ao.l1 (JP f N i Z s)=some r∧r.1≠.normal∧∃s',r=(.exit 2,LU f N i Z s')∧s'.D=R):=by
 obtain⟨j,D,n⟩:=s;obtain⟨hl,hj,P,x,Q,hP,hD,hsort,hR⟩:=hs;simp only at hl hj hP hD;rcases List.eq_nil_or_concat P with rfl|⟨P',y,rfl⟩
 ·right;have hj0:j=0:=by simpa using hP.symm
  subst hj0;obtain⟨n',hh⟩:=I8 (M:=M) (f:=f) m N i (D.map ah++Z) n;exact⟨_,hh,by simp,⟨0,D,n'⟩,rfl,by rw[←hR,hD];simp[gX]⟩
 ·rw[List.concat_eq_append] at hP hD hsort hR;have hlen:j=P'.length+1:=by simpa using hP.symm
  have hDm:D.map ah=(P'++y::(x::Q)).map ah:=by rw[hD];simp
  have hDm2:D.map ah=((P'++[y])++x::Q).map ah:=by rw[hD]
  have a1:∀hh,(D.map ah++Z)[P'.length]'hh=ah y:=by
   intro hh;rw[List.getElem_append_left (by simp;omega)];exact yz hDm P'.length rfl _
  have a2:∀hh,(D.map ah++Z)[j]'hh=ah x:=by
   intro hh;rw[List.getElem_append_left (by simp;omega)];exact yz hDm2 j (by simp[hlen]) _
  have hcmp:=hf x y;have e1:IntKind.i64.wrap ((j:Int)-1)=(P'.length:Int):=by rw[wrap_i64 (by omega) (by omega)];omega
  by_cases c:k x<k y
  ·left;obtain⟨n',hh⟩:=G8 hcmp (sM.2 c) m N i j P'.length hN (D.map ah++Z) e1 hj (by omega) (by omega) (by simp;omega) (by simp;omega) (by omega) (by omega) a1 a2 n;refine⟨⟨P'.length,P'++x::(y::Q),n'⟩, ?_,⟨by simp only;rw[hD] at hl;simp at hl ⊢;omega,by simp only;omega,P',x,y::Q,rfl,rfl,(List.pairwise_append.1 hsort).1,by rw[←hR,vV _ _ _ _ c]⟩,by simp only;omega⟩;have hs:=zb ah P' x y Q;simp only[JP];rw[←hs,←hDm,←hlen];rw[List.set_append_left _ _ (by simp;omega),List.set_append_left _ _ (by simp;omega)] at hh;exact hh
  ·right;obtain⟨n',hh⟩:=G9 hcmp (fun q=>c (sM.1 q)) m N i j P'.length hN (D.map ah++Z) e1 hj (by omega) (by omega) (by simp;omega) (by simp;omega) (by omega) (by omega) a1 a2 n;refine⟨_,hh,by simp,⟨j,D,n'⟩,rfl, ?_⟩;simp only;rw[hD,←hR,vU]
   ·simp
   ·intro z hz;rcases List.mem_append.1 hz with q|q
    ·have:=(List.pairwise_append.1 hsort).2.2 z q y (by simp);omega
    ·simp at q;subst q;omega
def kY(k:bo→Int)(l:List bo)(i:Nat):List bo:=eT k (l.take i)++l.drop i
theorem AL(k:bo→Int)(l:List bo)(i:Nat):(kY k l i).length=l.length:=by
 simp only[kY,aF,ij,hZ,List.length_drop];omega
structure Mf where
 i:Nat
 n:Nat
def I7(f:Nat)(Z:List (List T))(k:bo→Int)(l:List bo)(s:Mf):St:={t:=[(0,.c (.row 0 0 0 l.length)),(1,.c (I 0)),(2,.c (I l.length)),(3,.c (.fn f [])),(8,.c (I s.i))],o:=[(0,⟨0,4,true,false,(kY k l s.i).map ah++Z⟩)],n:=s.n}
theorem G6{f:Nat}{k:bo→Int}(hf:∀x y:bo,run M f [.a (ah x),.a (ah y)] []=some (.c (I (qx (k x) (k y))),[]))(m:Nat)(Z:List (List T))(l:List bo)(hN:l.length≤1048576)(hm:l.length<m)(s:Mf)(hs:1≤s.i∧s.i<l.length):
  ∃n',ct (run M) m ao.l0 (I7 f Z k l s)=some (.normal,I7 f Z k l ⟨s.i+1,n'⟩):=by
 obtain⟨i,n⟩:=s;obtain⟨h1,h2⟩:=hs;simp only at h1 h2;have htk:l.take (i+1)=l.take i++[l[i]]:=gK l i h2;have hdr:l.drop i=l[i]::l.drop (i+1):=bA h2;have hR:gX k (eT k (l.take i)) l[i]++l.drop (i+1)=kY k l (i+1):=by
  simp only[kY,htk];congr 1;unfold eT;rw[List.foldl_append];rfl
 obtain⟨r,hr,⟨⟨j,D,n'⟩,rfl,hD⟩⟩:=kq (f:=ct (run M) m ao.l1) (JP f l.length i Z) (Mg k l.length (kY k l (i+1))) (fun s=>s.j)
  (fun r=>∃s',r=(.exit 2,LU f l.length i Z s')∧s'.D=kY k l (i+1)) (fun s hs=>G7 hf m l.length i hN Z _ s hs) m ⟨i,kY k l i,n+48+32⟩
  ⟨AL k l i,h2,eT k (l.take i),l[i],l.drop (i+1),by rw[ij];simp;omega,by simp only[kY,hdr],nu _,hR⟩ (by simp only;omega)
 simp only at hD;subst hD;simp only[JP,LU] at hr;have e5:=cA (i:=i) (by omega);simp only[I7];generalize (kY k l i).map ah++Z=r0 at*;generalize (kY k l (i+1)).map ah++Z=r1 at*;simp (maxSteps:=9^9) [ao.l0,hr,h2,e5]
def qk(l:List bo)(Z:List (List T)):Nat×Ob:=(0,⟨0,4,true,false,l.map ah++Z⟩)
theorem AM(k:bo→Int)(l:List bo):kY k l l.length=eT k l:=by simp[kY]
theorem AK(k:bo→Int)(l:List bo):kY k l 1=l:=by
 cases l with
 |nil=>rfl
 |cons x l=>simp[kY,eT,gX]
def K8(f:Nat)(Z:List (List T))(k:bo→Int)(l:List bo)(s:Mf):St:={t:=[(0,.c (.row 0 0 0 l.length)),(1,.c (I 0)),(2,.c (I l.length)),(3,.c (.fn f [])),(8,.c (I s.i)),(14,.c (.bool false))],o:=[(0,⟨0,4,true,false,(kY k l s.i).map ah++Z⟩)],n:=s.n}
theorem I6{f:Nat}{k:bo→Int}(m:Nat)(Z:List (List T))(l:List bo)(i n:Nat)(h:l.length≤i):∃n',ct (run M) m ao.l0 (I7 f Z k l ⟨i,n⟩)=some (.exit 0,K8 f Z k l ⟨i,n'⟩):=by
 have h2:¬i<l.length:=by omega
 simp only[I7,K8];generalize (kY k l i).map ah++Z=r0 at*;simp (maxSteps:=9^9) [ao.l0,h2]
theorem ao.ar(h:ao.k M){f:Nat}{k:bo→Int}(hf:∀x y:bo,run M f [.a (ah x),.a (ah y)] []=some (.c (I (qx (k x) (k y))),[]))
  (l:List bo) (Z:List (List T)) (hN:l.length≤1048576):run M 486 [.c (.row 0 0 0 l.length),.c (I 0),.c (I l.length),.c (.fn f [])] [qk l Z]=some (.ll [],[qk (eT k l) Z]):=by
 refine aB (b:=ao.m) h ⟨l.length+1, ?_⟩;obtain⟨r,hr,⟨⟨i,n'⟩,rfl,hi⟩⟩:=kq (f:=ct (run M) (l.length+1) ao.l0) (I7 f Z k l) (fun s=>1≤s.i∧(s.i≤l.length∨s.i=1)) (fun s=>l.length-s.i)
  (fun r=>∃s',r=(.exit 0,K8 f Z k l s')∧(s'.i=l.length∨l.length=0∧s'.i=1))
  (fun s hs=>by
   obtain⟨i,n⟩:=s;by_cases c:i<l.length
   ·left;obtain⟨n',hh⟩:=G6 hf (l.length+1) Z l hN (by omega) ⟨i,n⟩ ⟨hs.1,c⟩;exact⟨_,hh,⟨by simp only;omega,by simp only;omega⟩,by simp only;omega⟩
   ·right;obtain⟨n',hh⟩:=I6 (M:=M) (f:=f) (k:=k) (l.length+1) Z l i n (by omega);simp only at hs;exact⟨_,hh,by simp,_,rfl,by simp only;omega⟩) (l.length+1) ⟨1,2000048⟩ ⟨by simp,by simp⟩ (by simp only;omega)
 have e1:kY k l i=eT k l:=by
  rcases hi with hi|⟨h0,hi⟩
  ·simp only at hi;rw[hi,AM]
  ·have:l=[]:=aZ h0;subst this;simp[kY,eT]
 simp only[I7,K8,e1,AK] at hr;have e2:IntKind.i64.wrap 1=1:=by decide
 have e3:((1:Nat):Int)=1:=rfl;rw[e3] at hr;simp only[qk];generalize l.map ah++Z=r0 at*;generalize (eT k l).map ah++Z=r1 at*;simp (maxSteps:=9^9) [bl,ao.m,ao.b,aa,hr,e2]
theorem ao.rest(h:ao.k M){f:Nat}(l:List bo)(Z:List (List T))(hN:l.length≤1048576):
  run M 486 [.c (.row 0 0 0 l.length),.c (I l.length),.c (I l.length),.c (.fn f [])] [qk l Z]=some (.ll [],[qk l Z]):=by
 refine aB (b:=ao.m) h ⟨1, ?_⟩;have e2:IntKind.i64.wrap ((l.length:Int)+1)=(l.length:Int)+1:=wrap_i64 (by omega) (by omega);have e3:¬(l.length:Int)+1<l.length:=by omega
 simp only[qk];have e4:l.length≤(l.map ah++Z).length:=by simp
 generalize l.map ah++Z=r0 at*;simp (maxSteps:=9^9) [bl,ao.m,ao.b,aa,eG,ao.l0,e2,e3]
theorem aL.ar(h:aL.k M){f:Nat}{k:bo→Int}(hf:∀x y:bo,run M f [.a (ah x),.a (ah y)] []=some (.c (I (qx (k x) (k y))),[]))
  (l:List bo) (Z:List (List T)) (hN:l.length≤20):run M 471 [.c (.row 0 0 0 l.length),.c (I l.length),.c (.fn f [])] [qk l Z]=some (.ll [],[qk (eT k l) Z]):=by
 obtain⟨h0,k1⟩:=h;have h1:=ao.ar k1 hf l Z (by omega);have h2:=ao.rest k1 (f:=f) (eT k l) Z (by rw[ij];omega);rw[ij] at h2;refine aB (b:=aL.m) h0 ⟨2, ?_⟩;have e1:l.length≤(l.map ah++Z).length:=by simp
 have e2:l.length≤((eT k l).map ah++Z).length:=by simp[ij]
 simp only[qk] at h1 h2 ⊢;generalize l.map ah++Z=r0 at*;generalize (eT k l).map ah++Z=r1 at*;by_cases c:l.length=20
 ·generalize l.length=N at*;subst c;simp only[bR] at h1 h2;have w1:IntKind.i64.wrap 40=40:=by decide
  simp (maxSteps:=9^9) [bl,aL.m,aL.b,aa,h1,h2,w1,eG,aL.l0,aL.l1,e1,e2]
 ·have c1:¬(20:Int)≤l.length:=by omega
  have c2:¬(20:Int)<l.length:=by omega
  have c3:¬20≤l.length:=by omega
  have c4:¬20<l.length:=by omega
  simp (maxSteps:=9^9) [bl,aL.m,aL.b,aa,h1,c1,c2,eG,aL.l0,aL.l1,e1]
theorem aV.ar(h:aV.k M){f:Nat}{k:bo→Int}(hf:∀x y:bo,run M f [.a (ah x),.a (ah y)] []=some (.c (I (qx (k x) (k y))),[]))
  (l:List bo) (Z:List (List T)) (hN:l.length≤20):run M 455 [.c (.row 0 0 0 l.length),.c (.fn f [])] [qk l Z]=some (.ll [],[qk (eT k l) Z]):=by
 have h1:=aL.ar h.2 hf l Z hN;refine aB (b:=aV.m) h.1 ⟨0, ?_⟩;have e1:l.length≤(l.map ah++Z).length:=by simp
 simp only[qk] at h1 ⊢;generalize l.map ah++Z=r0 at*;generalize (eT k l).map ah++Z=r1 at*;simp (maxSteps:=9^9) [bl,aV.m,aV.b,aa,h1,e1]
def sm{α:Type}(p:α→Bool)(l:List α)(i:Nat):Bool:=match l[i]? with|some m=>p m|none=>false
theorem jh{α:Type}(p:α→Bool)(l:List α)(i:Nat)(h:i<l.length):sm p l i=p l[i]:=by simp[sm,h]
def JR(f:Nat)(cs:List T)(l:List bo)(i:Nat)(x:Nat):St:={t:=[(0,.c (ae l)),(1,.c (.fn f [.vp cs 0])),(7,.c (I l.length)),(8,.c (I i))],o:=[],n:=x}
theorem aA.gen(h:aA.k M){f:Nat}{cs:List T}{p:bo→Bool}(hf:∀m,run M f [.a (ah m),.c (.vp cs 0)] []=some (.c (.bool (p m)),[]))(l:List bo)(hl:l.length≤1048576):
  run M 161 [.c (ae l),.c (.fn f [.vp cs 0])] []=some (.c (I (dy (dW (sm p l) l.length))),[]):=by
 refine aB (b:=aA.m) h ⟨l.length+1, ?_⟩;obtain⟨g',hr⟩:=lT (f:=ct (run M) (l.length+1) aA.l0) l.length (sm p l) (JR f cs l) jl oB
  (fun i hi x c=>by
   have hm:=hf l[i];rw[jh p l i hi] at c;rw[c] at hm;have e5:=cA (i:=i) (by omega);simp[JR,aA.l0,hi,hm,ah,e5])
  (fun i hi x c=>by
   have hm:=hf l[i];rw[jh p l i hi] at c;rw[c] at hm;simp[JR,aA.l0,hi,hm,ah,jl];exact⟨⟨[],[],_⟩,rfl⟩)
  (fun x=>by simp[JR,aA.l0,jl])
 cases hm:dW (sm p l) l.length with
 |none=>
  simp[JR,hm,jl] at hr;simp[bl,aA.m,aA.b,aa,hr,dy]
 |some k=>
  simp[JR,hm,jl] at hr;simp[bl,aA.m,aA.b,aa,hr,dy]
theorem Hq{f:Nat}{cs:List T}{g u:Int}{fl:List (List T)}{tx:List UInt8}(hf:run M f [.a [I g,I u,.sl false 3 fl,S tx],.c (.vp cs 0)] []=some (.c (.bool false),[]))(m N i j:Nat)(hN:N≤1048576)(rr:List (List T))(hj:j<N)(hi:i<N)(e2:rr.length=N)
  (a1:∀hh,rr[j]'hh=[I g,I u,.sl false 3 fl,S tx]) (n:Nat) (ri:List T) (a2:rr[i]? =some ri) (a3:ri.length=4):
  ∃n',ct (run M) m aC.l0 {t:=[(0,.c (.row 0 0 0 N)),(1,.c (.fn f [.vp cs 0])),(5,.c (I i)),(6,.c (I j))],o:=[(0,⟨0,4,true,false,rr⟩)],n:=n}=
   some (.normal,{t:=[(0,.c (.row 0 0 0 N)),(1,.c (.fn f [.vp cs 0])),(5,.c (I (i+1:Nat))),(6,.c (I (j+1:Nat)))],o:=[(0,⟨0,4,true,false,rr.set i [I g,I u,.sl false 3 fl,S tx]⟩)],n:=n'}):=by
 have e5:=cA (i:=i) (by omega);have e6:=cA (i:=j) (by omega)
 match ri,a3 with
 |[r0,r1,r2,r3],_=>
  have a4:∀hh,rr[i]'hh=[r0,r1,r2,r3]:=by
   intro hh;rw[cB hh] at a2;exact Option.some.inj a2
  clear a2;simp (maxSteps:=9^9) [aC.l0,setAt,hf,hj,hi,e2,a1,a4,e5,e6]
theorem Hr{f:Nat}{cs:List T}{g u:Int}{fl:List (List T)}{tx:List UInt8}(hf:run M f [.a [I g,I u,.sl false 3 fl,S tx],.c (.vp cs 0)] []=some (.c (.bool true),[]))(m N i j:Nat)(hN:N≤1048576)(rr:List (List T))(hj:j<N)(e2:rr.length=N)
  (a1:∀hh,rr[j]'hh=[I g,I u,.sl false 3 fl,S tx]) (n:Nat):
  ∃n',ct (run M) m aC.l0 {t:=[(0,.c (.row 0 0 0 N)),(1,.c (.fn f [.vp cs 0])),(5,.c (I i)),(6,.c (I j))],o:=[(0,⟨0,4,true,false,rr⟩)],n:=n}=
   some (.normal,{t:=[(0,.c (.row 0 0 0 N)),(1,.c (.fn f [.vp cs 0])),(5,.c (I i)),(6,.c (I (j+1:Nat)))],o:=[(0,⟨0,4,true,false,rr⟩)],n:=n'}):=by
 have e6:=cA (i:=j) (by omega);simp (maxSteps:=9^9) [aC.l0,setAt,hf,hj,e2,a1,e6]
theorem Jf{f:Nat}{cs:List T}(m N i j:Nat)(rr:List (List T))(hj:¬j<N)(n:Nat):
  ∃n',ct (run M) m aC.l0 {t:=[(0,.c (.row 0 0 0 N)),(1,.c (.fn f [.vp cs 0])),(5,.c (I i)),(6,.c (I j))],o:=[(0,⟨0,4,true,false,rr⟩)],n:=n}=
   some (.exit 0,{t:=[(0,.c (.row 0 0 0 N)),(1,.c (.fn f [.vp cs 0])),(5,.c (I i)),(6,.c (I j)),(19,.c (.bool false))],o:=[(0,⟨0,4,true,false,rr⟩)],n:=n'}):=by
 simp (maxSteps:=9^9) [aC.l0,hj]
structure Ll where
 j:Nat
 D:List bo
 n:Nat
def kP(p:bo→Bool)(l:List bo)(j:Nat):List bo:=(l.take j).filter fun m=> !p m
def Jg(f:Nat)(cs:List T)(p:bo→Bool)(l:List bo)(s:Ll):St:={t:=[(0,.c (.row 0 0 0 l.length)),(1,.c (.fn f [.vp cs 0])),(5,.c (I (kP p l s.j).length)),(6,.c (I s.j))],o:=[(0,⟨0,4,true,false,s.D.map ah⟩)],n:=s.n}
def L1(f:Nat)(cs:List T)(p:bo→Bool)(l:List bo)(s:Ll):St:={t:=[(0,.c (.row 0 0 0 l.length)),(1,.c (.fn f [.vp cs 0])),(5,.c (I (kP p l s.j).length)),(6,.c (I s.j)),(19,.c (.bool false))],o:=[(0,⟨0,4,true,false,s.D.map ah⟩)],n:=s.n}
structure KJ (p:bo→Bool) (l:List bo) (s:Ll):Prop where
 j:s.j≤l.length
 len:s.D.length=l.length
 tk:s.D.take (kP p l s.j).length=kP p l s.j
 dr:s.D.drop s.j=l.drop s.j
 lt:(kP p l s.j).length<s.j
theorem Hp{f:Nat}{cs:List T}{p:bo→Bool}(hf:∀m,run M f [.a (ah m),.c (.vp cs 0)] []=some (.c (.bool (p m)),[]))(k:Nat)(l:List bo)(hN:l.length≤1048576)(s:Ll)(hs:KJ p l s):
  (∃s',ct (run M) k aC.l0 (Jg f cs p l s)=some (.normal,Jg f cs p l s')∧KJ p l s'∧l.length-s'.j<l.length-s.j)∨
   (∃r,ct (run M) k aC.l0 (Jg f cs p l s)=some r∧r.1≠.normal∧∃s',r=(.exit 0,L1 f cs p l s')∧s'.j=l.length∧KJ p l s'):=by
 obtain⟨j,D,n⟩:=s;obtain⟨h1,h2,h3,h4,h5⟩:=hs;simp only at h1 h2 h3 h4 h5;by_cases c:j<l.length
 ·left;have hD:D[j]'(by omega)=l[j]:=by
   have q1:=bA (l:=D) (i:=j) (by omega);have q2:=bA (l:=l) (i:=j) c;rw[h4,q2] at q1;exact(List.cons.inj q1).1.symm
  have hdr:D.drop (j+1)=l.drop (j+1):=by
   have q1:=bA (l:=D) (i:=j) (by omega);have q2:=bA (l:=l) (i:=j) c;rw[h4,q2] at q1;exact(List.cons.inj q1).2.symm
  have a1:∀hh,(D.map ah)[j]'hh=ah l[j]:=by intro hh;simp[hD]
  have e2:(D.map ah).length=l.length:=by simpa using h2
  have hm:=hf l[j];have ek:kP p l (j+1)=kP p l j++if p l[j]=true then [] else [l[j]]:=by
   simp only[kP,gK l j c,List.filter_append];cases q:p l[j]<;>simp[q]
  cases q:p l[j] with
  |true=>
   rw[q] at hm;obtain⟨n',hh⟩:=Hr hm k l.length (kP p l j).length j hN (D.map ah) c e2 a1 n;rw[q] at ek;simp only[if_true,dZ] at ek;refine⟨⟨j+1,D,n'⟩, ?_,⟨by simp only;omega,h2,by simp only[ek];exact h3,hdr,by simp only[ek];omega⟩,by simp only;omega⟩;simp only[Jg,ek];exact hh
  |false=>
   rw[q] at hm;have hi:(kP p l j).length<l.length:=by omega
   obtain⟨n',hh⟩:=Hq hm k l.length (kP p l j).length j hN (D.map ah) c hi e2 a1 n (ah (D[(kP p l j).length]'(by omega))) (by rw[il,cB (by omega)];rfl) rfl;rw[q] at ek;simp only[au,if_false] at ek;have el:(kP p l (j+1)).length=(kP p l j).length+1:=by rw[ek];simp
   refine⟨⟨j+1,D.set (kP p l j).length l[j],n'⟩, ?_,⟨by simp only;omega,by simpa using h2, ?_, ?_,by simp only[el];omega⟩,by simp only;omega⟩
   ·simp only[Jg,el,gZ];exact hh
   ·show (D.set (kP p l j).length l[j]).take (kP p l (j+1)).length=kP p l (j+1);rw[el,ek,gK _ _ (by simp;omega),List.take_set_of_le (Nat.le_refl _),h3];simp
   ·simp only;rw[List.drop_set_of_lt (by omega)];exact hdr
 ·right;have hj:j=l.length:=by omega
  obtain⟨n',hh⟩:=Jf (M:=M) (f:=f) (cs:=cs) k l.length (kP p l j).length j (D.map ah) c n;exact⟨_,hh,by simp,⟨j,D,n'⟩,rfl,hj,⟨h1,h2,h3,h4,h5⟩⟩
theorem aC.ar(h:aC.k M){f:Nat}{cs:List T}{p:bo→Bool}(hf:∀m,run M f [.a (ah m),.c (.vp cs 0)] []=some (.c (.bool (p m)),[]))(l:List bo)(hl:l.length≤1048576):
  run M 453 [.c (.row 0 0 0 l.length),.c (.fn f [.vp cs 0])] [qk l []]=
   some (.c (.row 0 0 0 (l.filter fun m=> !p m).length),[(0,⟨0,4,true,false,(l.filter fun m=> !p m).map ah++List.replicate (l.length-(l.filter fun m=> !p m).length) rv⟩)]):=by
 obtain⟨h0,k1⟩:=h;have h1:=aA.gen k1 hf l hl;refine aB (b:=aC.m) h0 ⟨l.length+1, ?_⟩;have e0:(l.map ah).length=l.length:=by simp
 cases hq:dW (sm p l) l.length with
 |none=>
  have hall:(l.filter fun m=> !p m)=l:=List.filter_eq_self.2 fun m hm=>by
   obtain⟨j,hj,rfl⟩:=bV hm;have:=kW hq j hj;rw[jh p l j hj] at this;simp[this]
  rw[hall,Nat.sub_self,List.replicate_zero,dZ];rw[hq] at h1;simp only[qk,ae,dy,dZ] at h1 ⊢;generalize l.map ah=r0 at*;simp (maxSteps:=9^9) [bl,aC.m,aC.b,aa,h1,e0,ab]
 |some k=>
  rw[hq] at h1;obtain⟨hk1,hk2,hk3⟩:=kV hq;rw[jh p l k hk1] at hk2;have ek:kP p l k=l.take k:=by
   refine List.filter_eq_self.2 fun m hm=> ?_
   obtain⟨j,hj,rfl⟩:=bV hm;have hj':j<k:=by simp at hj;omega
   have:=hk3 j hj';rw[jh p l j (by omega)] at this;simp[this]
  have ek1:kP p l (k+1)=l.take k:=by
   simp only[kP,gK l k hk1,List.filter_append] at ek ⊢;rw[ek];simp[hk2]
  have el:(kP p l (k+1)).length=k:=by rw[ek1];simp;omega
  obtain⟨r,hr,⟨⟨j,D,n'⟩,rfl,hj,hI⟩⟩:=kq (f:=ct (run M) (l.length+1) aC.l0) (Jg f cs p l) (KJ p l) (fun s=>l.length-s.j)
   (fun r=>∃s',r=(.exit 0,L1 f cs p l s')∧s'.j=l.length∧KJ p l s') (fun s hs=>Hp hf (l.length+1) l hl s hs) (l.length+1) ⟨k+1,l,2000160⟩
   ⟨by simp only;omega,rfl,by show l.take (kP p l (k+1)).length=kP p l (k+1);rw[el,ek1],rfl,by simp only[el];omega⟩ (by simp only;omega)
  obtain⟨_,hlen,htk,_,hlt⟩:=hI;simp only at hj hlen htk hlt;subst hj;have ef:kP p l l.length=l.filter fun m=> !p m:=by simp[kP]
  rw[ef] at htk hlt;simp only[Jg,L1,el,ef] at hr;have e1:(D.map ah).length=l.length:=by simpa using hlen
  have e2:(D.map ah).take (l.filter fun m=> !p m).length=(l.filter fun m=> !p m).map ah:=by rw[←List.map_take,htk]
  have e3:((l.filter fun m=> !p m).map ah).length=(l.filter fun m=> !p m).length:=by simp
  have e5:=cA (i:=k) (by omega);have e6:((k+1:Nat):Int)=(k:Int)+1:=by omega
  have e7:¬(k:Int)= -1:=by omega
  rw[e6] at hr;simp only[qk,ae,dy,dZ] at h1 ⊢;generalize (l.filter fun m=> !p m).map ah=rf at*;generalize (l.filter fun m=> !p m).length=nf at*;generalize D.map ah=rd at*;generalize l.map ah=r0 at*;clear hk2 hk3 ek ek1 el hq ef;generalize l.length=N at*;have e8:nf≤N:=by omega
  have e9:¬N=nf:=by omega
  have e10:¬nf=N:=by omega
  have e11:nf+(N-nf)=N:=by omega
  have e12:¬N-nf=0:=by omega
  have e13:List.drop N rd=[]:=dY (by omega);simp (maxSteps:=9^9) [bl,aC.m,aC.b,aa,h1,hr,e0,e1,e2,e3,e5,e7,e8,e10,e11,e12,e13,ab]
theorem eY.ar(h:eY.k M)(x y:bz):run M 481 [.a (af x),.a (af y)] []=some (.c (I (qx x.gid y.gid)),[]):=by
 have h1:=eP.ar h.2 x.gid y.gid;refine aB (b:=eY.m) h.1 ⟨0, ?_⟩;simp (maxSteps:=9^9) [bl,eY.m,eY.b,aa,h1,af]
structure Lm where
 j:Nat
 D:List bz
 n:Nat
def JS(f N i:Nat)(Z:List (List T))(s:Lm):St:={t:=[(0,.c (.row 0 0 0 N)),(1,.c (I 0)),(2,.c (I N)),(3,.c (.fn f [])),(8,.c (I i)),(9,.c (I s.j))],o:=[(0,⟨0,7,true,false,s.D.map af++Z⟩)],n:=s.n}
def L5(f N i:Nat)(Z:List (List T))(s:Lm):St:={t:=[(0,.c (.row 0 0 0 N)),(1,.c (I 0)),(2,.c (I N)),(3,.c (.fn f [])),(8,.c (I i)),(9,.c (I s.j)),(34,.c (.bool false))],o:=[(0,⟨0,7,true,false,s.D.map af++Z⟩)],n:=s.n}
structure Mj (k:bz→Int) (N:Nat) (R:List bz) (s:Lm):Prop where
 len:s.D.length=N
 lt:s.j<N
 e:∃P x Q,P.length=s.j∧s.D=P++x::Q∧mS k P∧gX k P x++Q=R
theorem Hv{f:Nat}{g t w u g' t' w' u':Int}{nm nm':List UInt8}{fl fl' tx tx':List (List T)}{c:Int}
  (hcmp:run M f [.a [I g,S nm,I t,I w,I u,.sl false 4 fl,.sl false 1 tx],.a [I g',S nm',I t',I w',I u',.sl false 4 fl',.sl false 1 tx']] []=some (.c (I c),[])) (hc:c<0) (m N i j p:Nat) (hN:N≤1048576) (rr:List (List T)) (e1:IntKind.i64.wrap ((j:Int)-1)=(p:Int)) (hj:j<N) (hp:p<N) (h0:0<j) (e2:j<rr.length) (e3:p<rr.length) (hne:¬j=p) (hne':¬p=j)
  (a1:∀hh,rr[p]'hh=[I g',S nm',I t',I w',I u',.sl false 4 fl',.sl false 1 tx']) (a2:∀hh,rr[j]'hh=[I g,S nm,I t,I w,I u,.sl false 4 fl,.sl false 1 tx]) (n:Nat):
  ∃n',ct (run M) m aq.l1 {t:=[(0,.c (.row 0 0 0 N)),(1,.c (I 0)),(2,.c (I N)),(3,.c (.fn f [])),(8,.c (I i)),(9,.c (I j))],o:=[(0,⟨0,7,true,false,rr⟩)],n:=n}=
   some (.normal,{t:=[(0,.c (.row 0 0 0 N)),(1,.c (I 0)),(2,.c (I N)),(3,.c (.fn f [])),(8,.c (I i)),(9,.c (I p))],o:=[(0,⟨0,7,true,false,(rr.set j [I g',S nm',I t',I w',I u',.sl false 4 fl',.sl false 1 tx']).set p [I g,S nm,I t,I w,I u,.sl false 4 fl,.sl false 1 tx]⟩)],n:=n'}):=by
 simp (maxSteps:=9^9) [aq.l1,aa,setAt,hcmp,hc,a1,a2,e1,e2,e3,hj,hp,h0,hne]
theorem Hw{f:Nat}{g t w u g' t' w' u':Int}{nm nm':List UInt8}{fl fl' tx tx':List (List T)}{c:Int}
  (hcmp:run M f [.a [I g,S nm,I t,I w,I u,.sl false 4 fl,.sl false 1 tx],.a [I g',S nm',I t',I w',I u',.sl false 4 fl',.sl false 1 tx']] []=some (.c (I c),[])) (hc:¬c<0) (m N i j p:Nat) (hN:N≤1048576) (rr:List (List T)) (e1:IntKind.i64.wrap ((j:Int)-1)=(p:Int)) (hj:j<N) (hp:p<N) (h0:0<j) (e2:j<rr.length) (e3:p<rr.length) (hne:¬j=p) (hne':¬p=j)
  (a1:∀hh,rr[p]'hh=[I g',S nm',I t',I w',I u',.sl false 4 fl',.sl false 1 tx']) (a2:∀hh,rr[j]'hh=[I g,S nm,I t,I w,I u,.sl false 4 fl,.sl false 1 tx]) (n:Nat):
  ∃n',ct (run M) m aq.l1 {t:=[(0,.c (.row 0 0 0 N)),(1,.c (I 0)),(2,.c (I N)),(3,.c (.fn f [])),(8,.c (I i)),(9,.c (I j))],o:=[(0,⟨0,7,true,false,rr⟩)],n:=n}=
   some (.exit 2,{t:=[(0,.c (.row 0 0 0 N)),(1,.c (I 0)),(2,.c (I N)),(3,.c (.fn f [])),(8,.c (I i)),(9,.c (I j)),(34,.c (.bool false))],o:=[(0,⟨0,7,true,false,rr⟩)],n:=n'}):=by
 simp (maxSteps:=9^9) [aq.l1,aa,hcmp,hc,a1,a2,e1,e2,e3,hj,hp,h0]
theorem Jj{f:Nat}(m N i:Nat)(rr:List (List T))(n:Nat):
  ∃n',ct (run M) m aq.l1 {t:=[(0,.c (.row 0 0 0 N)),(1,.c (I 0)),(2,.c (I N)),(3,.c (.fn f [])),(8,.c (I i)),(9,.c (I 0))],o:=[(0,⟨0,7,true,false,rr⟩)],n:=n}=
   some (.exit 2,{t:=[(0,.c (.row 0 0 0 N)),(1,.c (I 0)),(2,.c (I N)),(3,.c (.fn f [])),(8,.c (I i)),(9,.c (I 0)),(34,.c (.bool false))],o:=[(0,⟨0,7,true,false,rr⟩)],n:=n'}):=by
 simp (maxSteps:=9^9) [aq.l1,aa]
theorem Hu{f:Nat}{k:bz→Int}(hf:∀x y:bz,run M f [.a (af x),.a (af y)] []=some (.c (I (qx (k x) (k y))),[]))(m N i:Nat)(hN:N≤1048576)(Z:List (List T))(R:List bz)(s:Lm)(hs:Mj k N R s):
  (∃s',ct (run M) m aq.l1 (JS f N i Z s)=some (.normal,JS f N i Z s')∧Mj k N R s'∧s'.j<s.j)∨
   (∃r,ct (run M) m aq.l1 (JS f N i Z s)=some r∧r.1≠.normal∧∃s',r=(.exit 2,L5 f N i Z s')∧s'.D=R):=by
 obtain⟨j,D,n⟩:=s;obtain⟨hl,hj,P,x,Q,hP,hD,hsort,hR⟩:=hs;simp only at hl hj hP hD;rcases List.eq_nil_or_concat P with rfl|⟨P',y,rfl⟩
 ·right;have hj0:j=0:=by simpa using hP.symm
  subst hj0;obtain⟨n',hh⟩:=Jj (M:=M) (f:=f) m N i (D.map af++Z) n;exact⟨_,hh,by simp,⟨0,D,n'⟩,rfl,by rw[←hR,hD];simp[gX]⟩
 ·rw[List.concat_eq_append] at hP hD hsort hR;have hlen:j=P'.length+1:=by simpa using hP.symm
  have hDm:D.map af=(P'++y::(x::Q)).map af:=by rw[hD];simp
  have hDm2:D.map af=((P'++[y])++x::Q).map af:=by rw[hD]
  have a1:∀hh,(D.map af++Z)[P'.length]'hh=af y:=by
   intro hh;rw[List.getElem_append_left (by simp;omega)];exact yz hDm P'.length rfl _
  have a2:∀hh,(D.map af++Z)[j]'hh=af x:=by
   intro hh;rw[List.getElem_append_left (by simp;omega)];exact yz hDm2 j (by simp[hlen]) _
  have hcmp:=hf x y;have e1:IntKind.i64.wrap ((j:Int)-1)=(P'.length:Int):=by rw[wrap_i64 (by omega) (by omega)];omega
  by_cases c:k x<k y
  ·left;obtain⟨n',hh⟩:=Hv hcmp (sM.2 c) m N i j P'.length hN (D.map af++Z) e1 hj (by omega) (by omega) (by simp;omega) (by simp;omega) (by omega) (by omega) a1 a2 n;refine⟨⟨P'.length,P'++x::(y::Q),n'⟩, ?_,⟨by simp only;rw[hD] at hl;simp at hl ⊢;omega,by simp only;omega,P',x,y::Q,rfl,rfl,(List.pairwise_append.1 hsort).1,by rw[←hR,vV _ _ _ _ c]⟩,by simp only;omega⟩;have hs:=zb af P' x y Q;simp only[JS];rw[←hs,←hDm,←hlen];rw[List.set_append_left _ _ (by simp;omega),List.set_append_left _ _ (by simp;omega)] at hh;exact hh
  ·right;obtain⟨n',hh⟩:=Hw hcmp (fun q=>c (sM.1 q)) m N i j P'.length hN (D.map af++Z) e1 hj (by omega) (by omega) (by simp;omega) (by simp;omega) (by omega) (by omega) a1 a2 n;refine⟨_,hh,by simp,⟨j,D,n'⟩,rfl, ?_⟩;simp only;rw[hD,←hR,vU]
   ·simp
   ·intro z hz;rcases List.mem_append.1 hz with q|q
    ·have:=(List.pairwise_append.1 hsort).2.2 z q y (by simp);omega
    ·simp at q;subst q;omega
def jP(k:bz→Int)(l:List bz)(i:Nat):List bz:=eT k (l.take i)++l.drop i
theorem y_(k:bz→Int)(l:List bz)(i:Nat):(jP k l i).length=l.length:=by
 simp only[jP,aF,ij,hZ,List.length_drop];omega
structure Mi where
 i:Nat
 n:Nat
def Jh(f:Nat)(Z:List (List T))(k:bz→Int)(l:List bz)(s:Mi):St:={t:=[(0,.c (.row 0 0 0 l.length)),(1,.c (I 0)),(2,.c (I l.length)),(3,.c (.fn f [])),(8,.c (I s.i))],o:=[(0,⟨0,7,true,false,(jP k l s.i).map af++Z⟩)],n:=s.n}
theorem Ht{f:Nat}{k:bz→Int}(hf:∀x y:bz,run M f [.a (af x),.a (af y)] []=some (.c (I (qx (k x) (k y))),[]))(m:Nat)(Z:List (List T))(l:List bz)(hN:l.length≤1048576)(hm:l.length<m)(s:Mi)(hs:1≤s.i∧s.i<l.length):
  ∃n',ct (run M) m aq.l0 (Jh f Z k l s)=some (.normal,Jh f Z k l ⟨s.i+1,n'⟩):=by
 obtain⟨i,n⟩:=s;obtain⟨h1,h2⟩:=hs;simp only at h1 h2;have htk:l.take (i+1)=l.take i++[l[i]]:=gK l i h2;have hdr:l.drop i=l[i]::l.drop (i+1):=bA h2;have hR:gX k (eT k (l.take i)) l[i]++l.drop (i+1)=jP k l (i+1):=by
  simp only[jP,htk];congr 1;unfold eT;rw[List.foldl_append];rfl
 obtain⟨r,hr,⟨⟨j,D,n'⟩,rfl,hD⟩⟩:=kq (f:=ct (run M) m aq.l1) (JS f l.length i Z) (Mj k l.length (jP k l (i+1))) (fun s=>s.j)
  (fun r=>∃s',r=(.exit 2,L5 f l.length i Z s')∧s'.D=jP k l (i+1)) (fun s hs=>Hu hf m l.length i hN Z _ s hs) m ⟨i,jP k l i,n+48+32⟩
  ⟨y_ k l i,h2,eT k (l.take i),l[i],l.drop (i+1),by rw[ij];simp;omega,by simp only[jP,hdr],nu _,hR⟩ (by simp only;omega)
 simp only at hD;subst hD;simp only[JS,L5] at hr;have e5:=cA (i:=i) (by omega);simp only[Jh];generalize (jP k l i).map af++Z=r0 at*;generalize (jP k l (i+1)).map af++Z=r1 at*;simp (maxSteps:=9^9) [aq.l0,hr,h2,e5]
def q9(l:List bz)(Z:List (List T)):Nat×Ob:=(0,⟨0,7,true,false,l.map af++Z⟩)
theorem za(k:bz→Int)(l:List bz):jP k l l.length=eT k l:=by simp[jP]
theorem y8(k:bz→Int)(l:List bz):jP k l 1=l:=by
 cases l with
 |nil=>rfl
 |cons x l=>simp[jP,eT,gX]
def Ld(f:Nat)(Z:List (List T))(k:bz→Int)(l:List bz)(s:Mi):St:={t:=[(0,.c (.row 0 0 0 l.length)),(1,.c (I 0)),(2,.c (I l.length)),(3,.c (.fn f [])),(8,.c (I s.i)),(14,.c (.bool false))],o:=[(0,⟨0,7,true,false,(jP k l s.i).map af++Z⟩)],n:=s.n}
theorem Ji{f:Nat}{k:bz→Int}(m:Nat)(Z:List (List T))(l:List bz)(i n:Nat)(h:l.length≤i):∃n',ct (run M) m aq.l0 (Jh f Z k l ⟨i,n⟩)=some (.exit 0,Ld f Z k l ⟨i,n'⟩):=by
 have h2:¬i<l.length:=by omega
 simp only[Jh,Ld];generalize (jP k l i).map af++Z=r0 at*;simp (maxSteps:=9^9) [aq.l0,h2]
theorem aq.ar(h:aq.k M){f:Nat}{k:bz→Int}(hf:∀x y:bz,run M f [.a (af x),.a (af y)] []=some (.c (I (qx (k x) (k y))),[]))
  (l:List bz) (Z:List (List T)) (hN:l.length≤1048576):run M 492 [.c (.row 0 0 0 l.length),.c (I 0),.c (I l.length),.c (.fn f [])] [q9 l Z]=some (.ll [],[q9 (eT k l) Z]):=by
 refine aB (b:=aq.m) h ⟨l.length+1, ?_⟩;obtain⟨r,hr,⟨⟨i,n'⟩,rfl,hi⟩⟩:=kq (f:=ct (run M) (l.length+1) aq.l0) (Jh f Z k l) (fun s=>1≤s.i∧(s.i≤l.length∨s.i=1)) (fun s=>l.length-s.i)
  (fun r=>∃s',r=(.exit 0,Ld f Z k l s')∧(s'.i=l.length∨l.length=0∧s'.i=1))
  (fun s hs=>by
   obtain⟨i,n⟩:=s;by_cases c:i<l.length
   ·left;obtain⟨n',hh⟩:=Ht hf (l.length+1) Z l hN (by omega) ⟨i,n⟩ ⟨hs.1,c⟩;exact⟨_,hh,⟨by simp only;omega,by simp only;omega⟩,by simp only;omega⟩
   ·right;obtain⟨n',hh⟩:=Ji (M:=M) (f:=f) (k:=k) (l.length+1) Z l i n (by omega);simp only at hs;exact⟨_,hh,by simp,_,rfl,by simp only;omega⟩) (l.length+1) ⟨1,2000048⟩ ⟨by simp,by simp⟩ (by simp only;omega)
 have e1:jP k l i=eT k l:=by
  rcases hi with hi|⟨h0,hi⟩
  ·simp only at hi;rw[hi,za]
  ·have:l=[]:=aZ h0;subst this;simp[jP,eT]
 simp only[Jh,Ld,e1,y8] at hr;have e2:IntKind.i64.wrap 1=1:=by decide
 have e3:((1:Nat):Int)=1:=rfl;rw[e3] at hr;simp only[q9];generalize l.map af++Z=r0 at*;generalize (eT k l).map af++Z=r1 at*;simp (maxSteps:=9^9) [bl,aq.m,aq.b,aa,hr,e2]
theorem aq.rest(h:aq.k M){f:Nat}(l:List bz)(Z:List (List T))(hN:l.length≤1048576):
  run M 492 [.c (.row 0 0 0 l.length),.c (I l.length),.c (I l.length),.c (.fn f [])] [q9 l Z]=some (.ll [],[q9 l Z]):=by
 refine aB (b:=aq.m) h ⟨1, ?_⟩;have e2:IntKind.i64.wrap ((l.length:Int)+1)=(l.length:Int)+1:=wrap_i64 (by omega) (by omega);have e3:¬(l.length:Int)+1<l.length:=by omega
 simp only[q9];have e4:l.length≤(l.map af++Z).length:=by simp
 generalize l.map af++Z=r0 at*;simp (maxSteps:=9^9) [bl,aq.m,aq.b,aa,eG,aq.l0,e2,e3]
theorem aO.ar(h:aO.k M){f:Nat}{k:bz→Int}(hf:∀x y:bz,run M f [.a (af x),.a (af y)] []=some (.c (I (qx (k x) (k y))),[]))
  (l:List bz) (Z:List (List T)) (hN:l.length≤20):run M 490 [.c (.row 0 0 0 l.length),.c (I l.length),.c (.fn f [])] [q9 l Z]=some (.ll [],[q9 (eT k l) Z]):=by
 obtain⟨h0,k1⟩:=h;have h1:=aq.ar k1 hf l Z (by omega);have h2:=aq.rest k1 (f:=f) (eT k l) Z (by rw[ij];omega);rw[ij] at h2;refine aB (b:=aO.m) h0 ⟨2, ?_⟩;have e1:l.length≤(l.map af++Z).length:=by simp
 have e2:l.length≤((eT k l).map af++Z).length:=by simp[ij]
 simp only[q9] at h1 h2 ⊢;generalize l.map af++Z=r0 at*;generalize (eT k l).map af++Z=r1 at*;by_cases c:l.length=20
 ·generalize l.length=N at*;subst c;simp only[bR] at h1 h2;have w1:IntKind.i64.wrap 40=40:=by decide
  simp (maxSteps:=9^9) [bl,aO.m,aO.b,aa,h1,h2,w1,eG,aO.l0,aO.l1,e1,e2]
 ·have c1:¬(20:Int)≤l.length:=by omega
  have c2:¬(20:Int)<l.length:=by omega
  have c3:¬20≤l.length:=by omega
  have c4:¬20<l.length:=by omega
  simp (maxSteps:=9^9) [bl,aO.m,aO.b,aa,h1,c1,c2,eG,aO.l0,aO.l1,e1]
theorem a8.ar(h:a8.k M){f:Nat}{k:bz→Int}(hf:∀x y:bz,run M f [.a (af x),.a (af y)] []=some (.c (I (qx (k x) (k y))),[]))
  (l:List bz) (Z:List (List T)) (hN:l.length≤20):run M 480 [.c (.row 0 0 0 l.length),.c (.fn f [])] [q9 l Z]=some (.ll [],[q9 (eT k l) Z]):=by
 have h1:=aO.ar h.2 hf l Z hN;refine aB (b:=a8.m) h.1 ⟨0, ?_⟩;have e1:l.length≤(l.map af++Z).length:=by simp
 simp only[q9] at h1 ⊢;generalize l.map af++Z=r0 at*;generalize (eT k l).map af++Z=r1 at*;simp (maxSteps:=9^9) [bl,a8.m,a8.b,aa,h1,e1]
def Dh(f:Nat)(cs:List T)(l:List bz)(i:Nat)(x:Nat):St:={t:=[(0,.c (boxes l)),(1,.c (.fn f [.vp cs 0])),(7,.c (I l.length)),(8,.c (I i))],o:=[],n:=x}
theorem ay.gen(h:ay.k M){f:Nat}{cs:List T}{p:bz→Bool}(hf:∀m,run M f [.a (af m),.c (.vp cs 0)] []=some (.c (.bool (p m)),[]))(l:List bz)(hl:l.length≤1048576):
  run M 200 [.c (boxes l),.c (.fn f [.vp cs 0])] []=some (.c (I (dy (dW (sm p l) l.length))),[]):=by
 refine aB (b:=ay.m) h ⟨l.length+1, ?_⟩;obtain⟨g',hr⟩:=lT (f:=ct (run M) (l.length+1) ay.l0) l.length (sm p l) (Dh f cs l) jl oB
  (fun i hi x c=>by
   have hm:=hf l[i];rw[jh p l i hi] at c;rw[c] at hm;have e5:=cA (i:=i) (by omega);simp[Dh,ay.l0,hi,hm,af,e5])
  (fun i hi x c=>by
   have hm:=hf l[i];rw[jh p l i hi] at c;rw[c] at hm;simp[Dh,ay.l0,hi,hm,af,jl];exact⟨⟨[],[],_⟩,rfl⟩)
  (fun x=>by simp[Dh,ay.l0,jl])
 cases hm:dW (sm p l) l.length with
 |none=>
  simp[Dh,hm,jl] at hr;simp[bl,ay.m,ay.b,aa,hr,dy]
 |some k=>
  simp[Dh,hm,jl] at hr;simp[bl,ay.m,ay.b,aa,hr,dy]
theorem HA{f:Nat}{cs:List T}{g t w u:Int}{nm:List UInt8}{fl tx:List (List T)}(hf:run M f [.a [I g,S nm,I t,I w,I u,.sl false 4 fl,.sl false 1 tx],.c (.vp cs 0)] []=some (.c (.bool false),[]))(m N i j:Nat)(hN:N≤1048576)(rr:List (List T))(hj:j<N)(hi:i<N)(e2:rr.length=N)
  (a1:∀hh,rr[j]'hh=[I g,S nm,I t,I w,I u,.sl false 4 fl,.sl false 1 tx]) (n:Nat) (ri:List T) (a2:rr[i]? =some ri) (a3:ri.length=7):
  ∃n',ct (run M) m aD.l0 {t:=[(0,.c (.row 0 0 0 N)),(1,.c (.fn f [.vp cs 0])),(5,.c (I i)),(6,.c (I j))],o:=[(0,⟨0,7,true,false,rr⟩)],n:=n}=
   some (.normal,{t:=[(0,.c (.row 0 0 0 N)),(1,.c (.fn f [.vp cs 0])),(5,.c (I (i+1:Nat))),(6,.c (I (j+1:Nat)))],o:=[(0,⟨0,7,true,false,rr.set i [I g,S nm,I t,I w,I u,.sl false 4 fl,.sl false 1 tx]⟩)],n:=n'}):=by
 have e5:=cA (i:=i) (by omega);have e6:=cA (i:=j) (by omega)
 match ri,a3 with
 |[r0,r1,r2,r3,r4,r5,r6],_=>
  have a4:∀hh,rr[i]'hh=[r0,r1,r2,r3,r4,r5,r6]:=by
   intro hh;rw[cB hh] at a2;exact Option.some.inj a2
  clear a2;simp (maxSteps:=9^9) [aD.l0,setAt,hf,hj,hi,e2,a1,a4,e5,e6]
theorem HB{f:Nat}{cs:List T}{g t w u:Int}{nm:List UInt8}{fl tx:List (List T)}(hf:run M f [.a [I g,S nm,I t,I w,I u,.sl false 4 fl,.sl false 1 tx],.c (.vp cs 0)] []=some (.c (.bool true),[]))(m N i j:Nat)(hN:N≤1048576)(rr:List (List T))(hj:j<N)(e2:rr.length=N)
  (a1:∀hh,rr[j]'hh=[I g,S nm,I t,I w,I u,.sl false 4 fl,.sl false 1 tx]) (n:Nat):
  ∃n',ct (run M) m aD.l0 {t:=[(0,.c (.row 0 0 0 N)),(1,.c (.fn f [.vp cs 0])),(5,.c (I i)),(6,.c (I j))],o:=[(0,⟨0,7,true,false,rr⟩)],n:=n}=
   some (.normal,{t:=[(0,.c (.row 0 0 0 N)),(1,.c (.fn f [.vp cs 0])),(5,.c (I i)),(6,.c (I (j+1:Nat)))],o:=[(0,⟨0,7,true,false,rr⟩)],n:=n'}):=by
 have e6:=cA (i:=j) (by omega);simp (maxSteps:=9^9) [aD.l0,setAt,hf,hj,e2,a1,e6]
theorem Jk{f:Nat}{cs:List T}(m N i j:Nat)(rr:List (List T))(hj:¬j<N)(n:Nat):
  ∃n',ct (run M) m aD.l0 {t:=[(0,.c (.row 0 0 0 N)),(1,.c (.fn f [.vp cs 0])),(5,.c (I i)),(6,.c (I j))],o:=[(0,⟨0,7,true,false,rr⟩)],n:=n}=
   some (.exit 0,{t:=[(0,.c (.row 0 0 0 N)),(1,.c (.fn f [.vp cs 0])),(5,.c (I i)),(6,.c (I j)),(19,.c (.bool false))],o:=[(0,⟨0,7,true,false,rr⟩)],n:=n'}):=by
 simp (maxSteps:=9^9) [aD.l0,hj]
structure Ln where
 j:Nat
 D:List bz
 n:Nat
def kQ(p:bz→Bool)(l:List bz)(j:Nat):List bz:=(l.take j).filter fun m=> !p m
def Jl(f:Nat)(cs:List T)(p:bz→Bool)(l:List bz)(s:Ln):St:={t:=[(0,.c (.row 0 0 0 l.length)),(1,.c (.fn f [.vp cs 0])),(5,.c (I (kQ p l s.j).length)),(6,.c (I s.j))],o:=[(0,⟨0,7,true,false,s.D.map af⟩)],n:=s.n}
def L_(f:Nat)(cs:List T)(p:bz→Bool)(l:List bz)(s:Ln):St:={t:=[(0,.c (.row 0 0 0 l.length)),(1,.c (.fn f [.vp cs 0])),(5,.c (I (kQ p l s.j).length)),(6,.c (I s.j)),(19,.c (.bool false))],o:=[(0,⟨0,7,true,false,s.D.map af⟩)],n:=s.n}
structure KK (p:bz→Bool) (l:List bz) (s:Ln):Prop where
 j:s.j≤l.length
 len:s.D.length=l.length
 tk:s.D.take (kQ p l s.j).length=kQ p l s.j
 dr:s.D.drop s.j=l.drop s.j
 lt:(kQ p l s.j).length<s.j
theorem Hz{f:Nat}{cs:List T}{p:bz→Bool}(hf:∀m,run M f [.a (af m),.c (.vp cs 0)] []=some (.c (.bool (p m)),[]))(k:Nat)(l:List bz)(hN:l.length≤1048576)(s:Ln)(hs:KK p l s):
  (∃s',ct (run M) k aD.l0 (Jl f cs p l s)=some (.normal,Jl f cs p l s')∧KK p l s'∧l.length-s'.j<l.length-s.j)∨
   (∃r,ct (run M) k aD.l0 (Jl f cs p l s)=some r∧r.1≠.normal∧∃s',r=(.exit 0,L_ f cs p l s')∧s'.j=l.length∧KK p l s'):=by
 obtain⟨j,D,n⟩:=s;obtain⟨h1,h2,h3,h4,h5⟩:=hs;simp only at h1 h2 h3 h4 h5;by_cases c:j<l.length
 ·left;have hD:D[j]'(by omega)=l[j]:=by
   have q1:=bA (l:=D) (i:=j) (by omega);have q2:=bA (l:=l) (i:=j) c;rw[h4,q2] at q1;exact(List.cons.inj q1).1.symm
  have hdr:D.drop (j+1)=l.drop (j+1):=by
   have q1:=bA (l:=D) (i:=j) (by omega);have q2:=bA (l:=l) (i:=j) c;rw[h4,q2] at q1;exact(List.cons.inj q1).2.symm
  have a1:∀hh,(D.map af)[j]'hh=af l[j]:=by intro hh;simp[hD]
  have e2:(D.map af).length=l.length:=by simpa using h2
  have hm:=hf l[j];have ek:kQ p l (j+1)=kQ p l j++if p l[j]=true then [] else [l[j]]:=by
   simp only[kQ,gK l j c,List.filter_append];cases q:p l[j]<;>simp[q]
  cases q:p l[j] with
  |true=>
   rw[q] at hm;obtain⟨n',hh⟩:=HB hm k l.length (kQ p l j).length j hN (D.map af) c e2 a1 n;rw[q] at ek;simp only[if_true,dZ] at ek;refine⟨⟨j+1,D,n'⟩, ?_,⟨by simp only;omega,h2,by simp only[ek];exact h3,hdr,by simp only[ek];omega⟩,by simp only;omega⟩;simp only[Jl,ek];exact hh
  |false=>
   rw[q] at hm;have hi:(kQ p l j).length<l.length:=by omega
   obtain⟨n',hh⟩:=HA hm k l.length (kQ p l j).length j hN (D.map af) c hi e2 a1 n (af (D[(kQ p l j).length]'(by omega))) (by rw[il,cB (by omega)];rfl) rfl;rw[q] at ek;simp only[au,if_false] at ek;have el:(kQ p l (j+1)).length=(kQ p l j).length+1:=by rw[ek];simp
   refine⟨⟨j+1,D.set (kQ p l j).length l[j],n'⟩, ?_,⟨by simp only;omega,by simpa using h2, ?_, ?_,by simp only[el];omega⟩,by simp only;omega⟩
   ·simp only[Jl,el,gZ];exact hh
   ·show (D.set (kQ p l j).length l[j]).take (kQ p l (j+1)).length=kQ p l (j+1);rw[el,ek,gK _ _ (by simp;omega),List.take_set_of_le (Nat.le_refl _),h3];simp
   ·simp only;rw[List.drop_set_of_lt (by omega)];exact hdr
 ·right;have hj:j=l.length:=by omega
  obtain⟨n',hh⟩:=Jk (M:=M) (f:=f) (cs:=cs) k l.length (kQ p l j).length j (D.map af) c n;exact⟨_,hh,by simp,⟨j,D,n'⟩,rfl,hj,⟨h1,h2,h3,h4,h5⟩⟩
theorem aD.ar(h:aD.k M){f:Nat}{cs:List T}{p:bz→Bool}(hf:∀m,run M f [.a (af m),.c (.vp cs 0)] []=some (.c (.bool (p m)),[]))(l:List bz)(hl:l.length≤1048576):
  run M 478 [.c (.row 0 0 0 l.length),.c (.fn f [.vp cs 0])] [q9 l []]=
   some (.c (.row 0 0 0 (l.filter fun m=> !p m).length),[(0,⟨0,7,true,false,(l.filter fun m=> !p m).map af++List.replicate (l.length-(l.filter fun m=> !p m).length) rF⟩)]):=by
 obtain⟨h0,k1⟩:=h;have h1:=ay.gen k1 hf l hl;refine aB (b:=aD.m) h0 ⟨l.length+1, ?_⟩;have e0:(l.map af).length=l.length:=by simp
 cases hq:dW (sm p l) l.length with
 |none=>
  have hall:(l.filter fun m=> !p m)=l:=List.filter_eq_self.2 fun m hm=>by
   obtain⟨j,hj,rfl⟩:=bV hm;have:=kW hq j hj;rw[jh p l j hj] at this;simp[this]
  rw[hall,Nat.sub_self,List.replicate_zero,dZ];rw[hq] at h1;simp only[q9,boxes,dy,dZ] at h1 ⊢;generalize l.map af=r0 at*;simp (maxSteps:=9^9) [bl,aD.m,aD.b,aa,h1,e0,ab]
 |some k=>
  rw[hq] at h1;obtain⟨hk1,hk2,hk3⟩:=kV hq;rw[jh p l k hk1] at hk2;have ek:kQ p l k=l.take k:=by
   refine List.filter_eq_self.2 fun m hm=> ?_
   obtain⟨j,hj,rfl⟩:=bV hm;have hj':j<k:=by simp at hj;omega
   have:=hk3 j hj';rw[jh p l j (by omega)] at this;simp[this]
  have ek1:kQ p l (k+1)=l.take k:=by
   simp only[kQ,gK l k hk1,List.filter_append] at ek ⊢;rw[ek];simp[hk2]
  have el:(kQ p l (k+1)).length=k:=by rw[ek1];simp;omega
  obtain⟨r,hr,⟨⟨j,D,n'⟩,rfl,hj,hI⟩⟩:=kq (f:=ct (run M) (l.length+1) aD.l0) (Jl f cs p l) (KK p l) (fun s=>l.length-s.j)
   (fun r=>∃s',r=(.exit 0,L_ f cs p l s')∧s'.j=l.length∧KK p l s') (fun s hs=>Hz hf (l.length+1) l hl s hs) (l.length+1) ⟨k+1,l,2000160⟩
   ⟨by simp only;omega,rfl,by show l.take (kQ p l (k+1)).length=kQ p l (k+1);rw[el,ek1],rfl,by simp only[el];omega⟩ (by simp only;omega)
  obtain⟨_,hlen,htk,_,hlt⟩:=hI;simp only at hj hlen htk hlt;subst hj;have ef:kQ p l l.length=l.filter fun m=> !p m:=by simp[kQ]
  rw[ef] at htk hlt;simp only[Jl,L_,el,ef] at hr;have e1:(D.map af).length=l.length:=by simpa using hlen
  have e2:(D.map af).take (l.filter fun m=> !p m).length=(l.filter fun m=> !p m).map af:=by rw[←List.map_take,htk]
  have e3:((l.filter fun m=> !p m).map af).length=(l.filter fun m=> !p m).length:=by simp
  have e5:=cA (i:=k) (by omega);have e6:((k+1:Nat):Int)=(k:Int)+1:=by omega
  have e7:¬(k:Int)= -1:=by omega
  rw[e6] at hr;simp only[q9,boxes,dy,dZ] at h1 ⊢;generalize (l.filter fun m=> !p m).map af=rf at*;generalize (l.filter fun m=> !p m).length=nf at*;generalize D.map af=rd at*;generalize l.map af=r0 at*;clear hk2 hk3 ek ek1 el hq ef;generalize l.length=N at*;have e8:nf≤N:=by omega
  have e9:¬N=nf:=by omega
  have e10:¬nf=N:=by omega
  have e11:nf+(N-nf)=N:=by omega
  have e12:¬N-nf=0:=by omega
  have e13:List.drop N rd=[]:=dY (by omega);simp (maxSteps:=9^9) [bl,aD.m,aD.b,aa,h1,hr,e0,e1,e2,e3,e5,e7,e8,e10,e11,e12,e13,ab]
end Mx
