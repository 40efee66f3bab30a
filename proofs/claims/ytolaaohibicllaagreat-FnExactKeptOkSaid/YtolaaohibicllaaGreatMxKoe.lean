/-
  What more of the functions compute, each by a small evaluation; no condition beyond what each says.
-/
import Derived.Lib.SlicesCompact
import Derived.Test.YtolaaohibicllaaGreatMxKod
set_option maxHeartbeats 16000000
set_option linter.unusedSimpArgs false
set_option linter.unusedVariables false
namespace Mx
open Go
variable {M:Nat→Option Body}
def ll(l:List UInt8)(c:iU):bq×iU:=
 let g:=cvar l c
 let nm:=ij l g.2
 let st:=lW l nm.2
 let nx:=cvar l st.2
 (⟨g.1,nm.1,st.1.1,st.1.2,nx.1,[],[]⟩,nx.2)
def ln(l:List UInt8)(c:iU):bq×iU:=
 let h:=ll l c
 let k:=jW l 10 h.2
 let ms:=lu (jG l) k.1.toNat k.2
 let go:=nZ l 40 ms.2
 ({h.1 with ae:=ms.1,gone:=go.1},go.2)
def Jp(b:bq)(i:Nat)(acc:List bj)(x:kS):List (Nat×Ob):=[(2,⟨x.a,7,true,true,[sZ]⟩),(3,⟨x.b,7,true,true,[[I b.gid,S b.name,I b.time,I b.eJ,I b.next,if i=0 then .aL 4 else .row 29 x.c 0 i,.aL 1]]⟩)]++if i=0 then [] else [(29,⟨x.c,4,true,false,acc.map ah⟩)]
def Cn(l:List UInt8)(b:bq)(n i:Nat)(acc:List bj)(c:iU)(x:kS):St:={t:=[(0,.c ql),(2,.c (.ptr 2 x.a 0 0)),(3,.c (.ptr 3 x.b 0 0)),(20,.c (I n)),(21,.c (I i))],o:=(0,mV 0 l c)::Jp b i acc x,n:=x.d}
def Gm(l:List UInt8)(b:bq)(n:Nat)(acc:List bj)(c:iU)(x:kS):St:={t:=[(0,.c ql),(2,.c (.ptr 2 x.a 0 0)),(3,.c (.ptr 3 x.b 0 0)),(20,.c (I n)),(21,.c (I n)),(22,.c (.bool false))],o:=(0,mV 0 l c)::Jp b n acc x,n:=x.d}
theorem dq.ak(h:dq.k M)(l:List UInt8)(hl:l.length≤4611686018427387904)(c:iU):
  run M 143 [.c ql] [(0,mV 0 l c)]=some (.a (b7 (ln l c).1),[(0,mV 0 l (ln l c).2)]):=by
 obtain⟨h0,k1,k2,k3,k4,k5,k6⟩:=h;have h1:=bL.ak k1 l hl c;have h2:=dX.ak k2 l hl (cvar l c).2;have h3:=fo.ak k5 l hl (ij l (cvar l c).2).2;have h4:=bL.ak k1 l hl (lW l (ij l (cvar l c).2).2).2;simp only[ln];have e0:ll l c=(⟨(cvar l c).1,(ij l (cvar l c).2).1,(lW l (ij l (cvar l c).2).2).1.1,(lW l (ij l (cvar l c).2).2).1.2,(cvar l (lW l (ij l (cvar l c).2).2).2).1,[],[]⟩,(cvar l (lW l (ij l (cvar l c).2).2).2).2):=rfl;rw[e0];generalize cvar l c=q1 at*;generalize ij l q1.2=q2 at*;generalize lW l q2.2=q3 at*;generalize cvar l q3.2=q4 at*;have h5:=dL.ak k3 l hl 10 q4.2;have hn:=qn l 10 q4.2;simp only;generalize jW l 10 q4.2=q5 at*;obtain⟨n,c1⟩:=q5;simp only at hn ⊢;obtain⟨n,rfl⟩:=gJ hn.1;simp only[fB];refine au (b:=dq.m) h0 ⟨n+1, ?_⟩;obtain⟨g,hr⟩:=rH (f:=cz (run M) (n+1) dq.l0) n (jG l) (Cn l ⟨q1.1,q2.1,q3.1.1,q3.1.2,q4.1,[],[]⟩ n) 0 (Gm l ⟨q1.1,q2.1,q3.1.1,q3.1.2,q4.1,[],[]⟩ n)
  (fun i hi acc c x ha=>by
   obtain⟨v,w,z,x⟩:=x;have h2:=dM.ak k6 l hl c;simp only[kS.ex];cases i with
   |zero=>
    have:acc=[]:=aY ha;subst this;simp (maxSteps:=9^9) [dq.l0,setAt,Cn,Jp,hi,h2,wrap_one,iC,ah]
   |succ i=>
    have e5:IntKind.i64.wrap ((i:Int)+1+1)=(i:Int)+1+1:=wrap_i64 (by omega) (by omega);have e6:i+1+1≤4294967296:=by omega
    have e7:(i:Int)+1<n:=by omega
    simp (maxSteps:=9^9) [dq.l0,setAt,Cn,Jp,e7,h2,e5,e6,ha,iC,ah,ab])
  (fun acc c x ha=>by
   obtain⟨v,w,z,x⟩:=x;simp only[kS.ex];by_cases hz:n=0
   ·subst hz;simp (maxSteps:=9^9) [dq.l0,Cn,Gm,Jp]
   ·simp (maxSteps:=9^9) [dq.l0,Cn,Gm,Jp,hz]) c1
 have hlen:=lG (jG l) n c1;have h6:=dp.ak k4 l hl 40 (lu (jG l) n c1).2;generalize lu (jG l) n c1=q at*;generalize nZ l 40 q.2=q6 at*
 replace hr:=fun a b d=>hr ⟨a,b,0,d⟩
 by_cases hz:n=0
 ·subst hz;have hq:q.1=[]:=aY hlen;simp[Cn,Gm,Jp] at hr;simp (maxSteps:=9^9) [ba,dq.m,dq.b,aa,setAt,h1,h2,h3,h4,h5,h6,hr,hq,ab]
 ·simp[Cn,Gm,Jp,hz] at hr;simp (maxSteps:=9^9) [ba,dq.m,dq.b,aa,setAt,h1,h2,h3,h4,h5,h6,hr,hlen,ab]
def nC(l:List UInt8)(c c':iU)(t:List UInt8):Prop:=c'.2=false→c.2=false∧c.1≤c'.1∧(t=[]∧c'.1=c.1∨0≤c.1∧c'.1≤l.length∧(l.take c'.1.toNat).drop c.1.toNat=t)
theorem nC.refl(l:List UInt8)(c:iU):nC l c c []:=fun h=>⟨h,Int.le_refl _,.inl ⟨rfl,rfl⟩⟩
theorem wz(l:List UInt8){m e f:Nat}(h:m≤e)(k:e≤f):(l.take e).drop m++(l.take f).drop e=(l.take f).drop m:=by
 have h1:(l.take f).take e=l.take e:=by rw[List.take_take,Nat.min_eq_left k]
 rw[←h1];generalize l.take f=x;rw[←da e (x.drop m)];by_cases he:e≤x.length
 ·have:(x.drop m)=(x.take e).drop m++x.drop e:=by
   conv=>lhs;rw[←da e x]
   rw[List.drop_append_of_le_length (by simp;omega)]
  rw[da,this]
 ·rw[da,ab (by omega),dY (by omega:x.length≤e),cR]
theorem nC.trans{l:List UInt8}{c d e:iU}{t u:List UInt8}(h:nC l c d t)(k:nC l d e u):nC l c e (t++u):=by
 intro he;obtain⟨hd,k1,k2⟩:=k he;obtain⟨hc,h1,h2⟩:=h hd;refine⟨hc,by omega, ?_⟩;rcases h2 with⟨rfl,h2⟩|⟨h2,h3,h4⟩
 ·rcases k2 with⟨rfl,k2⟩|⟨k2,k3,k4⟩
  ·exact .inl ⟨rfl,by omega⟩
  ·right;rw[h2] at k4 k2;exact⟨k2,k3,by simpa using k4⟩
 ·right;rcases k2 with⟨rfl,k2⟩|⟨k2,k3,k4⟩
  ·rw[k2];exact⟨h2,h3,by simpa using h4⟩
  ·refine⟨h2,k3, ?_⟩;rw[←h4,←k4,wz l (by omega) (by omega)]
theorem nC.bad{l:List UInt8}{c d:iU}{t:List UInt8}(h:nC l c d t)(hc:c.2=true):d.2=true:=by
 cases hd:d.2 with
 |true=>rfl
 |false=>rw[(h hd).1] at hc;cases hc
theorem zo(l:List UInt8)(a:Int)(h:(fQ l a).2.2=true):0≤a∧(l.take (fQ l a).2.1).drop a.toNat=kJ (fQ l a).1:=by
 obtain⟨h1,h2,h3⟩:=pg l a;have h4:=h3 h;refine⟨h4.1, ?_⟩;unfold fQ at h ⊢;split at h
 ·rename_i hr;rw[if_pos hr];cases hg:nv l a.toNat 5 0 0 with
  |none=>rw[hg] at h;cases h
  |some r=>
   rw[hg] at h;simp only[jU] at h ⊢;obtain⟨q1,q2,q3⟩:=uA l a.toNat 5 0 0 r hg h;rw[q3,List.drop_take]
 ·cases h
theorem kO(l:List UInt8)(c:iU):nC l c (cvar l c).2 (fP (cvar l c).1):=by
 intro h;unfold cvar at h ⊢;split at h
 ·cases h
 ·rename_i hn;rw[if_neg hn];rw[not_or] at hn;have h1:(fQ l c.1).2.2=true:=by simpa using hn.2
  obtain⟨h2,h3,h4⟩:=pg l c.1;have h5:=h4 h1;obtain⟨h6,h7⟩:=zo l c.1 h1;refine⟨by simpa using hn.1,by simp only;omega,.inr ⟨h6,by simp only;omega, ?_⟩⟩;simp only[fP,fB];exact h7
theorem ud(l:List UInt8)(c:iU):nC l c (ij l c).2 (iT (ij l c).1):=by
 intro h;unfold ij at h ⊢;split at h
 ·cases h
 ·rename_i hn;rw[if_neg hn];rw[not_or] at hn;have h1:(c_ l c.1).2.2=true:=by simpa using hn.2
  obtain⟨m,h2,h3,h4,h5,h6⟩:=oU l c.1 h1;refine⟨by simpa using hn.1,by simp only;omega,.inr ⟨by omega,by simp only;omega, ?_⟩⟩;have h7:c.1.toNat=m:=by omega
  simp only[h7,fB];exact h5
theorem uc(l:List UInt8)(c:iU):nC l c (lW l c).2 (fP (lW l c).1.1++fP (lW l c).1.2):=(kO l c).trans (kO l _)
theorem rW(l:List UInt8)(most:Int)(c:iU):nC l c (jW l most c).2 (fP (jW l most c).1):=by
 intro h;unfold jW at h ⊢;split at h
 ·cases h
 ·rename_i hn;rw[if_neg hn];exact kO l c h
theorem pC{α:Type}{l:List UInt8}{p:iU→α×iU}{t:α→List UInt8}(hp:∀c,nC l c (p c).2 (t (p c).1)):∀n c,nC l c (lu p n c).2 (texts t (lu p n c).1)
 |0,c=>nC.refl l c
 |n+1,c=>by
  have:=(hp c).trans (pC hp n (p c).2);simpa [lu,texts] using this
theorem rU(l:List UInt8)(most:Int)(c:iU):nC l c (nZ l most c).2 (kJ (nZ l most c).1.length++texts fP (nZ l most c).1):=by
 have h:=(rW l most c).trans (pC (kO l) (jW l most c).1.toNat (jW l most c).2);have hn:=qn l most c;unfold nZ;rw[lG];exact h
theorem Cj(l:List UInt8)(c:iU):nC l c (sG l c).2 (tI (sG l c).1):=by
 have:=(kO l c).trans (uc l (cvar l c).2);simpa [sG,tI,texts] using this
theorem vM(l:List UInt8)(c:iU):nC l c (jG l c).2 (nh (jG l c).1):=by
 have h1:=((kO l c).trans (kO l (cvar l c).2)).trans (pC (Cj l) 3 (cvar l (cvar l c).2).2);have:=h1.trans (ud l _);simp only[jG,nh];simpa [texts] using this
theorem A2(l:List UInt8)(c:iU):nC l c (ll l c).2 (fP (ll l c).1.gid++(iT (ll l c).1.name++(fP (ll l c).1.time++(fP (ll l c).1.eJ++fP (ll l c).1.next)))):=by
 have h1:=(((kO l c).trans (ud l _)).trans (uc l _)).trans (kO l (lW l (ij l (cvar l c).2).2).2);simpa [ll] using h1
theorem xP(l:List UInt8)(c:iU):nC l c (ln l c).2 (pG (ln l c).1):=by
 have h1:=((A2 l c).trans (rW l 10 _)).trans ((pC (vM l) (jW l 10 (ll l c).2).1.toNat (jW l 10 (ll l c).2).2).trans (rU l 40 _));have hn:=lG (jG l) (jW l 10 (ll l c).2).1.toNat (jW l 10 (ll l c).2).2;simp only[pG,sH,ln,hn];simpa [iT,fP] using h1
def nu{α:Type}(p:iU→α×iU):Nat→iU→List α×iU
 |0,c=>([],c)
 |n+1,c=>if c.2=true then([],c) else((p c).1::(nu p n (p c).2).1,(nu p n (p c).2).2)
theorem lH{α:Type}{p:iU→α×iU}(hp:∀c,c.2=true→(p c).2.2=true):∀n c,c.2=true→(lu p n c).2.2=true
 |0,c,h=>h
 |n+1,c,h=>lH hp n _ (hp c h)
theorem uP{α:Type}{p:iU→α×iU}(hp:∀c,c.2=true→(p c).2.2=true):∀n c,nu p n c=lu p n c∨(nu p n c).2.2=true∧(lu p n c).2.2=true
 |0,c=> .inl rfl
 |n+1,c=>by
  simp only[nu];split
  ·rename_i h;exact .inr ⟨h,lH hp (n+1) c h⟩
  ·rcases uP hp n (p c).2 with h|h
   ·left;rw[h];rfl
   ·exact .inr h
theorem sx{α:Type}{p:iU→α×iU}(n:Nat)(c:iU)(h:c.2=true):nu p n c=([],c):=by
 cases n with
 |zero=>rfl
 |succ n=>simp[nu,h]
theorem Eb{α:Type}{p:iU→α×iU}(hp:∀c,c.2=true→(p c).2.2=true):∀n c,(nu p n c).2.2=false→(nu p n c).1.length=n:=by
 intro n c h;rcases uP hp n c with q|q
 ·rw[q,lG]
 ·rw[q.1] at h;cases h
theorem Dy{α β γ:Type}(n:Nat)(p:iU→α×iU){f:St→Option (Out×St)}(S:Nat→List α→iU→β→St)(e:Nat)(E:List α→iU→γ→St)
  (h1:∀i,i<n→∀acc c x,acc.length=i→c.2=false→∃y,f (S i acc c x)=some (.normal,S (i+1) (acc++[(p c).1]) (p c).2 y))
  (h2:∀i,i<n→∀acc c x,acc.length=i→c.2=true→∃y,f (S i acc c x)=some (.exit e,E acc c y))
  (h3:∀acc c x,acc.length=n→∃y,f (S n acc c x)=some (.exit e,E acc c y)) (c:iU):
  ∃g:β→γ,∀x,fx f (n+1) (S 0 [] c x)=some (.exit e,E (nu p n c).1 (nu p n c).2 (g x)):=by
 have:=iN (f:=f) (fun s:Nat×List α×iU=>S s.1 s.2.1 s.2.2) (fun s=>s.1≤n∧s.2.1.length=s.1) (fun s=>n-s.1) (fun s=>(s.2.1++(nu p (n-s.1) s.2.2).1,(nu p (n-s.1) s.2.2).2)) (fun q m=>(.exit e,E q.1 q.2 m)) ?_ (n+1) (0,[],c) ⟨Nat.zero_le _,rfl⟩ (by simp)
 ·simpa using this
 rintro ⟨i,acc,c⟩ x ⟨hi,ha⟩;simp only at hi ha;by_cases hlt:i<n
 ·cases hc:c.2
  ·left;obtain⟨y,hy⟩:=h1 i hlt acc c x ha hc;refine⟨(i+1,acc++[(p c).1],(p c).2),y,hy,⟨hlt,by simp[ha]⟩,by simp only;omega, ?_⟩;simp only;rw[show n-i=(n-(i+1))+1 by omega];simp[nu,hc]
  ·right;obtain⟨y,hy⟩:=h2 i hlt acc c x ha hc;exact⟨y,by simp[hy,sx _ _ hc],by simp⟩
 ·have:i=n:=by omega
  subst this;right;obtain⟨y,hy⟩:=h3 acc c x ha;exact⟨y,by simp[hy,nu],by simp⟩
def mq(l:List UInt8)(most:Nat)(c:iU):List Int×iU:=nu (cvar l) (Min.min (cvar l c).1.toNat (most+1)) (cvar l c).2
def J9(l:List UInt8)(most n:Nat)(i:Nat)(acc:List Int)(c:iU)(x:Nat×Nat):St:={t:=[(0,.c ql),(1,.c (I most)),(5,.c (I n)),(6,.c (.row 10 x.1 0 i)),(7,.c (I i))],o:=[(0,mV 0 l c),(10,⟨x.1,1,true,false,aA acc⟩)],n:=x.2}
def KP(l:List UInt8)(most n:Nat)(acc:List Int)(c:iU)(x:Nat×Nat):St:={t:=[(0,.c ql),(1,.c (I most)),(5,.c (I n)),(6,.c (.row 10 x.1 0 acc.length)),(7,.c (I acc.length)),(25,.c (.bool false))],o:=[(0,mV 0 l c),(10,⟨x.1,1,true,false,aA acc⟩)],n:=x.2}
theorem dR.ak(h:dR.k M)(l:List UInt8)(hl:l.length≤4611686018427387904)(most:Nat)(hm:most≤1000)(c:iU):
  run M 142 [.c ql,.c (I most)] [(0,mV 0 l c)]=some (.c (.sl true 1 (aA (mq l most c).1)),[(0,mV 0 l (mq l most c).2)]):=by
 obtain⟨h0,k1⟩:=h;have h1:=b9.ak k1 l hl c;have hn:=oZ l c;unfold mq;generalize cvar l c=q at*;obtain⟨n,c1⟩:=q;simp only at hn ⊢;obtain⟨n,rfl⟩:=gJ hn.1;simp only[fB];generalize hd:Min.min n (most+1)=d;have hd1:d≤n:=by omega
 have hd2:d≤most+1:=by omega
 have hd3:d=n∨d=most+1:=by omega
 refine au (b:=dR.m) h0 ⟨d+1, ?_⟩;obtain⟨g,hr⟩:=Dy (f:=cz (run M) (d+1) dR.l0) d (cvar l) (J9 l most n) 0 (KP l most n)
  (fun i hi acc c x ha hc=>by
   obtain⟨v,x⟩:=x;have h2:=b9.ak k1 l hl c;have e5:=cA (i:=i) (by omega);have e6:i+1≤4294967296:=by omega
   have h3:(i:Int)<n:=by omega
   have h4:(i:Int)≤most:=by omega
   have h4':i≤most:=by omega
   have h3':i<n:=by omega
   obtain⟨ca,cb⟩:=c;simp only at hc;subst hc;simp only[aE];simp (maxSteps:=9^9) [dR.l0,J9,h3,h4,h2,e5,e6,ha,aA,ab])
  (fun i hi acc c x ha hc=>by
   obtain⟨v,x⟩:=x;have h3:i<n:=by omega
   have h4:i≤most:=by omega
   obtain⟨ca,cb⟩:=c;simp only at hc;subst hc;simp only[aE];simp (maxSteps:=9^9) [dR.l0,J9,KP,h3,h4,ha])
  (fun acc c x ha=>by
   obtain⟨v,x⟩:=x;simp only[aE];rcases hd3 with h3|h3
   ·have h4:¬d<n:=by omega
    simp (maxSteps:=9^9) [dR.l0,J9,KP,h4,ha]
   ·have h4:¬d≤most:=by omega
    by_cases h5:d<n
    ·simp (maxSteps:=9^9) [dR.l0,J9,KP,h4,h5,ha]
    ·simp (maxSteps:=9^9) [dR.l0,J9,KP,h5,ha]) c1
 have hlen:(nu (cvar l) d c1).1.length≤(nu (cvar l) d c1).1.length:=Nat.le_refl _;simp[J9,KP,aA] at hr;simp (maxSteps:=9^9) [ba,dR.m,dR.b,aa,h1,hr,aA,ab]
theorem b9.at(h:b9.k M)(l:List UInt8)(hl:l.length≤4611686018427387904)(a:Int)(b:Bool):
  run M 139 [.c ql] [(0,⟨0,3,true,true,[[S l,I a,.bool b]]⟩)]=some (.c (I (cvar l (a,b)).1),[(0,mV 0 l (cvar l (a,b)).2)]):=b9.ak h l hl (a,b)
theorem bL.at(h:bL.k M)(l:List UInt8)(hl:l.length≤4611686018427387904)(a:Int)(b:Bool):
  run M 152 [.c ql] [(0,⟨0,3,true,true,[[S l,I a,.bool b]]⟩)]=some (.c (I (cvar l (a,b)).1),[(0,mV 0 l (cvar l (a,b)).2)]):=bL.ak h l hl (a,b)
def AD:bj:=⟨0,0,[],[]⟩
def rI(l:List UInt8)(a:Int):bj×Int×Bool:=if(jG l (a,false)).2.2=false∧iZ (jG l (a,false)).1=true then((jG l (a,false)).1,(jG l (a,false)).2.1,true) else(AD,0,false)
def K8(l:List UInt8)(g u:Int)(i:Nat)(acc:List mJ)(c:iU)(x:kS):St:={t:=[(4,.c (.ptr 4 x.a 0 0)),(7,.c (.ptr 14 2000096 0 0)),(8,.c (.ptr 8 x.b 0 0)),(9,.c (I i))],o:=[(4,⟨x.a,4,true,true,[sQ]⟩),(8,⟨x.b,4,true,true,[[I g,I u,if i=0 then .aL 3 else .row 40 x.c 0 i,.str ⟨#[]⟩]]⟩),(14,mV 2000096 l c)]++if i=0 then [] else [(40,⟨x.c,3,true,false,acc.map aO⟩)],n:=x.d}
def MG(l:List UInt8)(g u:Int)(acc:List mJ)(c:iU)(x:kS):St:={t:=[(4,.c (.ptr 4 x.a 0 0)),(7,.c (.ptr 14 2000096 0 0)),(8,.c (.ptr 8 x.b 0 0)),(9,.c (I 3)),(22,.c (.bool false))],o:=[(4,⟨x.a,4,true,true,[sQ]⟩),(8,⟨x.b,4,true,true,[[I g,I u,.row 40 x.c 0 3,.str ⟨#[]⟩]]⟩),(14,mV 2000096 l c),(40,⟨x.c,3,true,false,acc.map aO⟩)],n:=x.d}
theorem dj.ak(h:dj.k M)(l:List UInt8)(hl:l.length≤4611686018427387904)(a:Int):
  run M 141 [.c (S l),.c (I a)] []=some (.lM [.a (iC (rI l a).1),.c (I (rI l a).2.1),.c (.bool (rI l a).2.2)],[]):=by
 obtain⟨h0,k1,k2,k3⟩:=h;have h1:=b9.at k1 l hl a false;have h2:=b9.ak k1 l hl (cvar l (a,false)).2;refine au (b:=dj.m) h0 ⟨4, ?_⟩;obtain⟨g,hr⟩:=rH (f:=cz (run M) 4 dj.l0) 3 (sG l) (K8 l (cvar l (a,false)).1 (cvar l (cvar l (a,false)).2).1) 0 (MG l (cvar l (a,false)).1 (cvar l (cvar l (a,false)).2).1)
  (fun i hi acc c x ha=>by
   obtain⟨v,w,z,x⟩:=x;have h2:=b9.ak k1 l hl c;have h3:=b9.ak k1 l hl (cvar l c).2;have h4:=b9.ak k1 l hl (cvar l (cvar l c).2).2;simp only[kS.ex];cases i with
   |zero=>
    have:acc=[]:=aY ha;subst this;simp (maxSteps:=9^9) [dj.l0,setAt,K8,h2,h3,h4,wrap_one,aO,sG,lW]
   |succ i=>
    have e5:IntKind.i64.wrap ((i:Int)+1+1)=(i:Int)+1+1:=wrap_i64 (by omega) (by omega);have e6:i+1+1≤4294967296:=by omega
    have e7:(i:Int)+1<3:=by omega
    simp (maxSteps:=9^9) [dj.l0,setAt,K8,e7,h2,h3,h4,e5,e6,ha,aO,sG,lW,ab])
  (fun acc c x ha=>by
   obtain⟨v,w,z,x⟩:=x;simp only[kS.ex];simp (maxSteps:=9^9) [dj.l0,K8,MG]) (cvar l (cvar l (a,false)).2).2
 have hlen:=lG (sG l) 3 (cvar l (cvar l (a,false)).2).2;have h4:=fM.ak k2 l hl (lu (sG l) 3 (cvar l (cvar l (a,false)).2).2).2;have h5:=dJ.ak k3 (jG l (a,false)).1 (by simp[jG,lG]);obtain⟨q,hq⟩:∃q,lu (sG l) 3 (cvar l (cvar l (a,false)).2).2=q:=⟨_,rfl⟩
 have e:jG l (a,false)=(⟨(cvar l (a,false)).1,(cvar l (cvar l (a,false)).2).1,q.1,(ij l q.2).1⟩,(ij l q.2).2):=by rw[←hq];rfl
 rw[hq] at hr hlen h4;rw[e] at h5;unfold rI;rw[e]
 replace hr:=fun a b d=>hr ⟨a,b,0,d⟩
 simp[K8,MG] at hr;simp only[ah] at h5;generalize ij l q.2=r at*;cases c1:r.2.2
 ·generalize iZ _=ok at*;cases ok<;>simp (maxSteps:=9^9) [ba,dj.m,dj.b,aa,setAt,h1,h2,h4,h5,hr,hlen,c1,AD,ab]
 ·simp (maxSteps:=9^9) [ba,dj.m,dj.b,aa,setAt,h1,h2,h4,hr,c1,AD,ab]
def qm(l:List UInt8):Nat→iU→Option (List bj×iU)
 |0,c=>some ([],c)
 |d+1,c=>if(jG l c).2.2=false∧iZ (jG l c).1=true then(qm l d (jG l c).2).map fun r=>((jG l c).1::r.1,r.2) else none
def yj:bq:=⟨0,[],0,0,0,[],[]⟩
def sg(l:List UInt8)(a:Int):bq×Int×Bool:=if(ln l (a,false)).2.2=false∧fA (ln l (a,false)).1=true then((ln l (a,false)).1,(ln l (a,false)).2.1,true) else(yj,0,false)
def An(l:List UInt8)(c:iU):Option (bq×iU):=
 let h:=ll l c
 let k:=cvar l h.2
 (qm l (Min.min k.1.toNat 11) k.2).map fun ms=>({h.1 with ae:=ms.1,gone:=(mq l 40 ms.2).1},(mq l 40 ms.2).2)
theorem pc(l:List UInt8)(c:iU)(h:c.2=true):(jG l c).2.2=true:=(vM l c).bad h
theorem pb(l:List UInt8)(c:iU)(h:c.2=true):(cvar l c).2.2=true:=(kO l c).bad h
theorem uQ{l:List UInt8}:∀{d:Nat} {c:iU} {r:List bj×iU},qm l d c=some r→lu (jG l) d c=r∧(∀m∈r.1,iZ m=true)∧(c.2=false→r.2.2=false)∧r.1.length=d
 |0,c,r,h=>by simp[qm] at h;subst h;simp[lu]
 |d+1,c,r,h=>by
  simp only[qm] at h;split at h
  ·rename_i hc;simp only[al] at h;obtain⟨q,hq,rfl⟩:=h;obtain⟨h1,h2,h3,h4⟩:=uQ hq;refine⟨by simp[lu,h1], ?_,fun _=>h3 hc.1,by simp[h4]⟩;intro m hm;rcases List.mem_cons.1 hm with rfl|hm
   ·exact hc.2
   ·exact h2 m hm
  ·cases h
theorem yZ{l:List UInt8}:∀{d:Nat} {c:iU},qm l d c=none→(lu (jG l) d c).2.2=true∨∃m∈(lu (jG l) d c).1,iZ m=false
 |0,c,h=>by simp[qm] at h
 |d+1,c,h=>by
  simp only[qm] at h;split at h
  ·rename_i hc;simp only[Option.map_eq_none_iff] at h;rcases yZ h with h1|⟨m,h1,h2⟩
   ·exact .inl h1
   ·exact .inr ⟨m,bo _ h1,h2⟩
  ·rename_i hc;cases h1:(jG l c).2.2
   ·right;refine⟨_,bl .., ?_⟩;cases h2:iZ (jG l c).1
    ·rfl
    ·exact(hc ⟨h1,h2⟩).elim
   ·left;exact lH (pc l) d _ h1
theorem uS{b:bq}(h:(10<b.ae.length∨40<b.gone.length)∨∃m∈b.ae,iZ m=false):fA b=false:=by
 cases hb:fA b
 ·rfl
 ·obtain⟨h1,h2,h3,h4,h5,h6,h7,h8,h9⟩:=j5 hb;rcases h with (h|h)|⟨m,hm,h⟩
  ·omega
  ·omega
  ·rw[h9 m hm] at h;cases h
theorem mw(l:List UInt8)(most:Int)(c:iU)(h:c.2=true):(nZ l most c).2.2=true:=(rU l most c).bad h
theorem xO(l:List UInt8)(most:Nat)(c:iU):((mq l most c).2.2=true∨most<(mq l most c).1.length)∧(nZ l most c).2.2=true∨mq l most c=nZ l most c:=by
 have hn:=oZ l c;unfold mq nZ jW;by_cases h1:(cvar l c).2.2=true
 ·left;rw[if_pos (.inr h1)];simp only[Int.toNat_zero,lu,and_true];left;rw[sx _ _ h1];exact h1
 ·by_cases h2:(most:Int)<(cvar l c).1
  ·left;rw[if_pos (.inl h2)];simp only[Int.toNat_zero,lu,and_true];rw[show Min.min (cvar l c).1.toNat (most+1)=most+1 by omega];cases h3:(nu (cvar l) (most+1) (cvar l c).2).2.2
   ·right;rw[Eb (pb l) _ _ h3];omega
   ·exact .inl rfl
  ·rw[if_neg (by rw[not_or];exact⟨h2,h1⟩)];rw[show Min.min (cvar l c).1.toNat (most+1)=(cvar l c).1.toNat by omega];rcases uP (pb l) (cvar l c).1.toNat (cvar l c).2 with h|h
   ·exact .inr h
   ·exact .inl ⟨.inl h.1,h.2⟩
theorem Am{l:List UInt8}{c:iU}{r:bq×iU}(hr:An l c=some r):ln l c=r∨(r.2.2=true∨fA r.1=false)∧(ln l c).2.2=true:=by
 have hn:=oZ l (ll l c).2;simp only[An,al] at hr;obtain⟨ms,hms,rfl⟩:=hr;obtain⟨h1,h2,h3,h4⟩:=uQ hms;simp only[ln,jW];by_cases hb:(cvar l (ll l c).2).2.2=true
 ·right;rw[if_pos (.inr hb)];have hms2:ms.2.2=true:=by rw[←h1];exact lH (pc l) _ _ hb
  refine⟨.inl ?_, ?_⟩
  ·simp only[mq];rw[sx _ _ (pb l _ hms2)];exact pb l _ hms2
  ·exact mw l _ _ (lH (pc l) _ _ rfl)
 ·by_cases ht:10<(cvar l (ll l c).2).1
  ·right;rw[if_pos (.inl ht)];refine⟨.inr (uS (.inl (.inl ?_))),mw l _ _ (lH (pc l) _ _ rfl)⟩;simp only[h4];omega
  ·rw[if_neg (by rw[not_or];exact⟨ht,hb⟩)];rw[show Min.min (cvar l (ll l c).2).1.toNat 11=(cvar l (ll l c).2).1.toNat by omega] at h1;rw[h1];rcases xO l 40 ms.2 with⟨q1,q2⟩|q
   ·right;refine⟨?_,q2⟩;rcases q1 with q1|q1
    ·exact .inl q1
    ·exact .inr (uS (.inl (.inr q1)))
   ·left;rw[q];rfl
theorem Fh(l:List UInt8)(c:iU):(match An l c with|some r=>r.2.2=false∧fA r.1=true|none=>False)↔(ln l c).2.2=false∧fA (ln l c).1=true:=by
 have hn:=oZ l (ll l c).2;cases hs:An l c with
 |some r=>
  simp only;rcases Am hs with h|⟨h1,h2⟩
  ·rw[h]
  ·constructor
   ·rintro ⟨h3,h4⟩;rcases h1 with h1|h1
    ·rw[h1] at h3;cases h3
    ·rw[h1] at h4;cases h4
   ·rintro ⟨h3,_⟩;rw[h2] at h3;cases h3
 |none=>
  simp only[false_iff];rintro ⟨h3,h4⟩;simp only[An,Option.map_eq_none_iff] at hs;have hk:=yZ hs;simp only[ln,jW] at h3 h4;by_cases hb:(cvar l (ll l c).2).2.2=true
  ·rw[if_pos (.inr hb)] at h3;rw[mw l _ _ (lH (pc l) _ _ rfl)] at h3;cases h3
  ·by_cases ht:10<(cvar l (ll l c).2).1
   ·rw[if_pos (.inl ht)] at h3;rw[mw l _ _ (lH (pc l) _ _ rfl)] at h3;cases h3
   ·rw[if_neg (by rw[not_or];exact⟨ht,hb⟩)] at h3 h4;rw[show Min.min (cvar l (ll l c).2).1.toNat 11=(cvar l (ll l c).2).1.toNat by omega] at hk;rcases hk with hk|⟨m,hm,hk⟩
    ·rw[mw l _ _ hk] at h3;cases h3
    ·rw[uS (.inr ⟨m,hm,hk⟩)] at h4;cases h4
theorem DR(l:List UInt8)(a:Int):sg l a=match An l (a,false) with
  |some r=>if r.2.2=false∧fA r.1=true then(r.1,r.2.1,true) else(yj,0,false)
  |none=>(yj,0,false):=by
 have h:=Fh l (a,false);unfold sg;cases hs:An l (a,false) with
 |none=>
  rw[hs] at h;simp only[false_iff] at h;rw[if_neg h]
 |some r=>
  rw[hs] at h;simp only at h ⊢;by_cases c:r.2.2=false∧fA r.1=true
  ·rw[if_pos c,if_pos (h.1 c)];rcases Am hs with q|⟨q1,q2⟩
   ·rw[q]
   ·rw[(h.1 c).1] at q2;cases q2
  ·rw[if_neg c,if_neg fun k=>c (h.2 k)]
def DS(b:bq)(i:Nat)(acc:List bj)(l:List UInt8)(c:iU)(x:kS):List (Nat×Ob):=[(4,⟨x.a,7,true,true,[sZ]⟩),(8,⟨x.b,7,true,true,[[I b.gid,S b.name,I b.time,I b.eJ,I b.next,if i=0 then .aL 4 else .row 70 x.c 0 i,.aL 1]]⟩),(17,mV 2000096 l c)]++if i=0 then [] else [(70,⟨x.c,4,true,false,acc.map ah⟩)]
def Aw(l:List UInt8)(b:bq)(n i:Nat)(acc:List bj)(c:iU)(x:kS):St:={t:=[(0,.c (S l)),(4,.c (.ptr 4 x.a 0 0)),(7,.c (.ptr 17 2000096 0 0)),(8,.c (.ptr 8 x.b 0 0)),(9,.c (I n)),(10,.c (I i))],o:=DS b i acc l c x,n:=x.d}
def JL(l:List UInt8)(b:bq)(n i:Nat)(acc:List bj)(c:iU)(x:kS):St:={t:=[(0,.c (S l)),(4,.c (.ptr 4 x.a 0 0)),(7,.c (.ptr 17 2000096 0 0)),(8,.c (.ptr 8 x.b 0 0)),(9,.c (I n)),(10,.c (I i)),(50,.c (.bool false))],o:=DS b i acc l c x,n:=x.d}
def BW(l:List UInt8)(b:bq)(n:Nat)(q:Option (List bj×iU))(m:kS×List (Nat×Ob)):Out×St:=match q with
 |none=>(.ret,{t:=[(4,.c (.ptr 4 m.1.a 0 0)),(5,.c (I 0)),(6,.c (.bool false))],o:=(4,⟨m.1.a,7,true,true,[sZ]⟩)::m.2,n:=m.1.d})
 |some r=>(.exit 0,JL l b n r.1.length r.1 r.2 m.1)
theorem Fs(l:List UInt8)(b:bq)(n:Nat)(q:Option (List bj×iU))(m:kS×List (Nat×Ob)):(BW l b n q m).1≠.normal:=by cases q<;>simp[BW]
theorem bK.loop(k5:dj.k M)(l:List UInt8)(hl:l.length≤4611686018427387904)(b:bq)(n D:Nat)(hD:Min.min n 11=D)(c:iU)(hc:0<D→c.2=false):
  ∃g:kS→kS×List (Nat×Ob),∀x,fx (cz (run M) (D+1) bK.l0) (D+1) (Aw l b n 0 [] c x)=some (BW l b n (qm l D c) (g x)):=by
 have:=iN (f:=cz (run M) (D+1) bK.l0) (fun s:Nat×List bj×iU=>Aw l b n s.1 s.2.1 s.2.2) (fun s=>s.1≤D∧s.2.1.length=s.1∧(s.1<D→s.2.2.2=false)) (fun s=>D-s.1)
  (fun s=>(qm l (D-s.1) s.2.2).map fun r=>(s.2.1++r.1,r.2)) (BW l b n) ?_ (D+1) (0,[],c) ⟨Nat.zero_le _,rfl,hc⟩ (by simp)
 ·simpa using this
 rintro ⟨i,acc,c⟩ x ⟨hi,ha,hc⟩;simp only at hi ha hc;by_cases hlt:i<D
 ·have hc:=hc hlt;obtain⟨ca,cb⟩:=c;simp only at hc;subst hc;have h2:=dj.ak k5 l hl ca;have h3:i<n:=by omega
  have h4:i≤10:=by omega
  have h3':(i:Int)<n:=by omega
  have h4':(i:Int)≤10:=by omega
  have hd:D-i=(D-(i+1))+1:=by omega
  obtain⟨xa,xb,xc,xd⟩:=x;unfold rI at h2;by_cases hk:(jG l (ca,false)).2.2=false∧iZ (jG l (ca,false)).1=true
  ·left;rw[if_pos hk] at h2;refine⟨(i+1,acc++[(jG l (ca,false)).1],(jG l (ca,false)).2), ?_⟩;have hcc:(jG l (ca,false)).2=((jG l (ca,false)).2.1,false):=Prod.ext rfl hk.1;have hres:(qm l (D-(i+1)) (jG l (ca,false)).2).map (fun r=>((acc++[(jG l (ca,false)).1])++r.1,r.2))=(qm l (D-i) (ca,false)).map fun r=>(acc++r.1,r.2):=by
    rw[hd,qm,if_pos hk,Option.map_map];congr 1;funext r;simp
   simp only[hres,and_true];have hrun:∃y,cz (run M) (D+1) bK.l0 (Aw l b n i acc (ca,false) ⟨xa,xb,xc,xd⟩)=some (.normal,Aw l b n (i+1) (acc++[(jG l (ca,false)).1]) (jG l (ca,false)).2 y):=by
    rw[hcc];generalize jG l (ca,false)=r at*;simp only[kS.ex];cases i with
    |zero=>
     have:acc=[]:=aY ha;subst this;simp (maxSteps:=9^9) [bK.l0,setAt,Aw,DS,h2,h3,wrap_one,iC,ah]
    |succ i=>
     have e5:IntKind.i64.wrap ((i:Int)+1+1)=(i:Int)+1+1:=wrap_i64 (by omega) (by omega);have e6:i+1+1≤4294967296:=by omega
     have h3':(i:Int)+1<n:=by omega
     have h4':(i:Int)+1≤10:=by omega
     simp (maxSteps:=9^9) [bK.l0,setAt,Aw,DS,h3',h4',h2,e5,e6,ha,iC,ah,ab]
   obtain⟨y,hy⟩:=hrun;exact⟨y,hy,⟨hlt,by simp[ha],fun _=>hk.1⟩,by omega⟩
  ·right;rw[if_neg hk] at h2;rw[hd,qm,if_neg hk];have hrun:∃z,cz (run M) (D+1) bK.l0 (Aw l b n i acc (ca,false) ⟨xa,xb,xc,xd⟩)=some (BW l b n none z):=by
    simp only[aE,kS.ex];cases i with
    |zero=>
     have:acc=[]:=aY ha;subst this;simp (maxSteps:=9^9) [bK.l0,setAt,Aw,DS,BW,h2,h3,AD]
    |succ i=>
     have h3':(i:Int)+1<n:=by omega
     have h4':(i:Int)+1≤10:=by omega
     simp (maxSteps:=9^9) [bK.l0,setAt,Aw,DS,BW,h3',h4',h2,AD]
   obtain⟨z,hz⟩:=hrun;exact⟨z,hz,Fs _ _ _ _ _⟩
 ·have:i=D:=by omega
  subst this;right;rw[Nat.sub_self];simp only[qm,iF,cR];have hrun:∃z,cz (run M) (i+1) bK.l0 (Aw l b n i acc c x)=some (BW l b n (some (acc,c)) (z,[])):=by
   obtain⟨xa,xb,xc,xd⟩:=x;simp only[kS.ex];have hx:i=n∨i=11:=by omega
   rcases hx with rfl|rfl
   ·by_cases hz:i=0
    ·subst hz;simp (maxSteps:=9^9) [bK.l0,Aw,JL,BW,DS,ha]
    ·simp (maxSteps:=9^9) [bK.l0,Aw,JL,BW,DS,ha,hz]
   ·have h1:11≤n:=by omega
    by_cases h2:(11:Int)<n
    ·simp (maxSteps:=9^9) [bK.l0,Aw,JL,BW,DS,ha,h2]
    ·simp (maxSteps:=9^9) [bK.l0,Aw,JL,BW,DS,ha,h2]
  obtain⟨z,hz⟩:=hrun;exact⟨(z,[]),hz,Fs _ _ _ _ _⟩
theorem pB(l:List UInt8)(c:iU):(ij l c).1.length≤l.length:=by
 have h:(c_ l c.1).1.length≤l.length:=by
  unfold c_;split
  ·simp;omega
  ·simp
 unfold ij;split
 ·simp
 ·exact h
theorem vN(l:List UInt8)(c:iU):(jG l c).1.flags.length=3:=by simp[jG,lG]
theorem xM{l:List UInt8}:∀{d:Nat} {c:iU} {r:List bj×iU},qm l d c=some r→∀m∈r.1,m.flags.length=3
 |0,c,r,h=>by simp[qm] at h;subst h;simp
 |d+1,c,r,h=>by
  simp only[qm] at h;split at h
  ·simp only[al] at h;obtain⟨q,hq,rfl⟩:=h;intro m hm;rcases List.mem_cons.1 hm with rfl|hm
   ·exact vN l c
   ·exact xM hq m hm
  ·cases h
theorem xK{α:Type}{p:iU→α×iU}:∀n c,(nu p n c).1.length≤n
 |0,c=>by simp[nu]
 |n+1,c=>by
  simp only[nu];split
  ·simp
  ·have:=xK (p:=p) n (p c).2;simp;omega
theorem bK.ak(h:bK.k M)(l:List UInt8)(hl:l.length≤1048576)(a:Int):
  run M 52 [.c (S l),.c (I a)] []=some (.lM [.a (b7 (sg l a).1),.c (I (sg l a).2.1),.c (.bool (sg l a).2.2)],[]):=by
 obtain⟨h0,k1,k2,k3,k5,k4⟩:=h;have hl2:l.length≤4611686018427387904:=by omega
 have h1:=b9.at k2 l hl2 a false;have h2:=fM.ak k3 l hl2 (cvar l (a,false)).2;have h3:=b9.ak k2 l hl2 (ij l (cvar l (a,false)).2).2;have h4:=b9.ak k2 l hl2 (cvar l (ij l (cvar l (a,false)).2).2).2;have h5:=b9.ak k2 l hl2 (cvar l (cvar l (ij l (cvar l (a,false)).2).2).2).2;rw[DR];have e0:An l (a,false)=(qm l (Min.min (cvar l (ll l (a,false)).2).1.toNat 11) (cvar l (ll l (a,false)).2).2).map fun ms=>({(ll l (a,false)).1 with ae:=ms.1,gone:=(mq l 40 ms.2).1},(mq l 40 ms.2).2):=rfl
 rw[e0];have e1:ll l (a,false)=(⟨(cvar l (a,false)).1,(ij l (cvar l (a,false)).2).1,(cvar l (ij l (cvar l (a,false)).2).2).1,(cvar l (cvar l (ij l (cvar l (a,false)).2).2).2).1,(cvar l (cvar l (cvar l (ij l (cvar l (a,false)).2).2).2).2).1,[],[]⟩,(cvar l (cvar l (cvar l (ij l (cvar l (a,false)).2).2).2).2).2):=rfl;rw[e1];clear e0 e1;have hname:=pB l (cvar l (a,false)).2;generalize cvar l (a,false)=q1 at*;generalize ij l q1.2=q2 at*;generalize cvar l q2.2=q3 at*;generalize cvar l q3.2=q4 at*;generalize cvar l q4.2=q5 at*;have h6:=b9.ak k2 l hl2 q5.2;have hn:=oZ l q5.2;have hz:(cvar l q5.2).2.2=true→(cvar l q5.2).1=0:=by
  unfold cvar;split
  ·intro _;rfl
  ·intro h;cases h
 simp only;generalize cvar l q5.2=q6 at*;obtain⟨n,c1⟩:=q6;simp only at hn hz ⊢;obtain⟨n,rfl⟩:=gJ hn.1;simp only[fB];obtain⟨D,hD⟩:∃D,Min.min n 11=D:=⟨_,rfl⟩
 refine au (b:=bK.m) h0 ⟨D+1, ?_⟩;obtain⟨g,hr⟩:=bK.loop k5 l hl2 ⟨q1.1,q2.1,q3.1,q4.1,q5.1,[],[]⟩ n D hD c1 (fun hd=>by
  cases hc:c1.2
  ·rfl
  ·have:=hz hc;omega)
 rw[hD]
 replace hr:=fun a b d=>hr ⟨a,b,0,d⟩
 cases hq:qm l D c1 with
 |none=>
  simp only[hq] at hr;simp[Aw,DS,BW] at hr;simp only[Option.map_none];simp (maxSteps:=9^9) [ba,bK.m,bK.b,aa,setAt,h1,h2,h3,h4,h5,h6,hr,yj,aA]
 |some r=>
  simp only[hq] at hr;simp only[iF];obtain⟨m1,m2,m3,m4⟩:=uQ hq;have m5:=xM hq;have h7:=dR.ak k4 l hl2 40 (by omega) r.2;simp only[jJ] at h7;have hgl:(mq l 40 r.2).1.length≤41:=by
   unfold mq;exact Nat.le_trans (xK _ _) (by omega)
  have h8:=br.ak k1 ⟨q1.1,q2.1,q3.1,q4.1,q5.1,r.1,(mq l 40 r.2).1⟩ (by simp only[m4];omega) (by simp only;omega) (by simp only;omega) (fun m hm=>by rw[m5 m hm];omega);simp only[af] at h8;generalize mq l 40 r.2=w at*;generalize hbb:fA _=ok at*;by_cases hz:D=0
  ·have hr0:r.1=[]:=aY (by omega);subst hz;simp[Aw,JL,DS,BW,hr0] at hr;simp only[hr0,ae,ints,aA,bS] at h8;cases c1:w.2.2
   ·cases ok<;>simp (maxSteps:=9^9) [ba,bK.m,bK.b,aa,setAt,h1,h2,h3,h4,h5,h6,h7,h8,hr,hr0,c1,yj,aA,ab]
   ·simp (maxSteps:=9^9) [ba,bK.m,bK.b,aa,setAt,h1,h2,h3,h4,h5,h6,h7,hr,c1,yj,aA,ab]
  ·have hz':¬r.1.length=0:=by omega
   have hz'':r.1≠[]:=fun e=>hz' (by rw[e];rfl)
   simp only[ae,ints,aA] at h8;simp[Aw,JL,DS,BW,hz''] at hr;cases c1:w.2.2
   ·cases ok<;>simp (maxSteps:=9^9) [ba,bK.m,bK.b,aa,setAt,h1,h2,h3,h4,h5,h6,h7,h8,hr,c1,yj,aA,ab]
   ·simp (maxSteps:=9^9) [ba,bK.m,bK.b,aa,setAt,h1,h2,h3,h4,h5,h6,h7,hr,c1,yj,aA,ab]
theorem oS{s:a7}(h:a8 s=true):isVar s.eJ∧isVar s.time∧s.boxes.length≤5∧s.gone.length≤20∧(∀n∈s.gone,isVar n)∧(∀b∈s.boxes,fA b=true)∧1≤s.eJ∧s.eJ≤2:=by
 simp only[a8,aj,decide_eq_true_eq,ch,jE,lE] at h;obtain⟨⟨⟨⟨h1,h2⟩,h3⟩,h4⟩,h5⟩:=h;have hg:=pP h4;refine⟨⟨by omega,by omega⟩,⟨by omega,by omega⟩,h3,by omega,fun n hn=>⟨by have:=hg.2 n hn;omega,by have:=hg.2 n hn;omega⟩,fun b hb=> ?_,h1.1,h1.2⟩;obtain⟨i,hi,rfl⟩:=bQ hb;have:=h5 i hi;rw[n8 hi,ov hi] at this;simp at this;exact this.1.1.1.1.1
theorem qp{b:bq}(h:fA b=true):(pG b).length≤11000:=by
 obtain⟨v1,v2,v3,v4,v5,v6,v7,v8,v9⟩:=j5 h;have:=xR h;have:=kZ fP b.gone 10 fun n hn=>cO (v8 n hn)
 have:=kZ nh b.ae 1000 fun m hm=>oj (v9 m hm)
 have:=jC (n:=b.gone.length) (by omega);simp only[pG,aD];omega
def mB(s:a7):List UInt8:=fP s.eJ++(fP s.time++kJ s.boxes.length)
def storeT(s:a7):List UInt8:=mB s++(texts pG s.boxes++(kJ s.gone.length++texts fP s.gone))
def f_(s:a7):List UInt8×Bool:=if a8 s=true then kU (storeT s) else([],false)
theorem wB{s:a7}(h:a8 s=true):(mB s).length≤30:=by
 obtain⟨v1,v2,v3,v4,v5,v6,_⟩:=oS h;have:=cO v1;have:=cO v2;have:=jC (n:=s.boxes.length) (by omega);simp only[mB,aD];omega
def LW(s:a7)(i:Nat)(t:List UInt8)(x:Nat×Nat):St:={t:=[(1,.c (.ptr 1 x.1 0 0)),(4,.c (S t)),(5,.c (I i))],o:=[(1,⟨x.1,4,true,true,[aq s]⟩)],n:=x.2}
def Mw(s:a7)(t:List UInt8)(x:Nat×Nat):St:={t:=[(1,.c (.ptr 1 x.1 0 0)),(4,.c (S t)),(5,.c (I s.boxes.length)),(28,.c (.bool false))],o:=[(1,⟨x.1,4,true,true,[aq s]⟩)],n:=x.2}
def Hk(s:a7)(i:Nat)(t:List UInt8)(x:Nat×Nat):St:={t:=[(1,.c (.ptr 1 x.1 0 0)),(4,.c (S t)),(8,.c (I i))],o:=[(1,⟨x.1,4,true,true,[aq s]⟩)],n:=x.2}
def Jz(s:a7)(t:List UInt8)(x:Nat×Nat):St:={t:=[(1,.c (.ptr 1 x.1 0 0)),(4,.c (S t)),(8,.c (I s.gone.length)),(53,.c (.bool false))],o:=[(1,⟨x.1,4,true,true,[aq s]⟩)],n:=x.2}
theorem b6.ak(h:b6.k M)(s:a7)(hs:gr s):run M 60 [.a (aq s)] []=some (.lM [.c (S (f_ s).1),.c (.bool (f_ s).2)],[]):=by
 obtain⟨h0,kb,kv,kse,ko⟩:=h;have h1:=aJ.ak ko s hs;refine au (b:=b6.m) h0 ⟨s.boxes.length+s.gone.length+1, ?_⟩;simp only[aq] at h1;unfold f_;cases c:a8 s
 ·rw[c] at h1;simp (maxSteps:=9^9) [ba,b6.m,b6.b,aa,h1]
 rw[c] at h1;obtain⟨v1,v2,v3,v4,v5,v6,_⟩:=oS c;have g1:=bD.int kv s.eJ v1.1 (by have:=v1.2;omega);have g2:=bD.int kv s.time v2.1 (by have:=v2.2;omega);have g6:=bD.ak kv s.boxes.length (by omega);have g7:=bD.ak kv s.gone.length (by omega);have l1:=cO v1;have l2:=cO v2;have l7:=jC (n:=s.boxes.length) (by omega);have l8:=jC (n:=s.gone.length) (by omega);have l9:=kZ fP s.gone 10 fun n hn=>cO (v5 n hn)
 have l10:=kZ pG s.boxes 11000 fun b hb=>qp (v6 b hb)
 have hp:=wB c;obtain⟨g,hr⟩:=mY (f:=cz (run M) (s.boxes.length+s.gone.length+1) b6.l0) s.boxes pG 11000 30 (fun b hb=>qp (v6 b hb)) (LW s) 0 (Mw s)
  (fun i hi t x ht=>by
   obtain⟨v,x⟩:=x;have e5:=cA (i:=i) (by omega);have hx:=v6 _ (ax hi);have hin:=(hs.i _ (ax hi)).ok;have h6:=df.ak kb s.boxes[i] hin.1 hin.2.1 hin.2.2.1 hin.2.2.2;rw[if_pos hx,hx] at h6;have h7:=qp hx;simp only[af] at h6;simp only[aE];have e6:=bT t (pG s.boxes[i]) (by omega);simp (maxSteps:=9^9) [b6.l0,LW,hi,h6,e5,e6,af])
  (fun t x=>by
   obtain⟨v,x⟩:=x;simp only[aE];simp (maxSteps:=9^9) [b6.l0,LW,Mw]) (mB s) hp
 obtain⟨g',hr'⟩:=mY (f:=cz (run M) (s.boxes.length+s.gone.length+1) b6.l1) s.gone fP 10 56000 (fun n hn=>cO (v5 n hn)) (Hk s) 2 (Jz s)
  (fun i hi t x ht=>by
   obtain⟨v,x⟩:=x;have e5:=cA (i:=i) (by omega);have hx:=v5 _ (ax hi);have h6:=bD.int kv s.gone[i] hx.1 (by have:=hx.2;omega);have h7:=cO hx;simp only[aE];have e6:=bT t (fP s.gone[i]) (by omega);simp (maxSteps:=9^9) [b6.l1,Hk,hi,h6,e5,e6])
  (fun t x=>by
   obtain⟨v,x⟩:=x;simp only[aE];simp (maxSteps:=9^9) [b6.l1,Hk,Jz]) (mB s++texts pG s.boxes++kJ s.gone.length) (by simp;omega)
 have e1:=bT (fP s.eJ) (fP s.time) (by omega);have e2:=bT (fP s.eJ++fP s.time) (kJ s.boxes.length) (by simp;omega);have e3:mB s=fP s.eJ++fP s.time++kJ s.boxes.length:=by simp[mB]
 rw[←e3] at e2;have e8:=bT (mB s++texts pG s.boxes) (kJ s.gone.length) (by simp;omega);have hse:=gL.ak kse (storeT s) (by simp only[storeT,aD];omega);simp only[storeT] at hse ⊢;simp only[b4] at e1 e2 e8 hse;simp[LW,Mw] at hr;simp[Hk,Jz] at hr';have hr2:=fun x y=>gz (hr x y) (show s.boxes.length+1≤s.boxes.length+s.gone.length+1 by omega)
 have hr3:=fun x y=>gz (hr' x y) (show s.gone.length+1≤s.boxes.length+s.gone.length+1 by omega)
 generalize mB s=p at*;generalize texts pG s.boxes=q at*;generalize texts fP s.gone=r at*;simp (maxSteps:=9^9) [ba,b6.m,b6.b,aa,hr2,hr3,h1,g1,g2,g6,g7,e1,e2,e8,hse]
def nM(u:List UInt8)(c:iU):a7×iU:=
 let w:=cvar u c
 let t:=cvar u w.2
 let k:=jW u 5 t.2
 let bs:=lu (ln u) k.1.toNat k.2
 let go:=nZ u 20 bs.2
 (⟨w.1,t.1,bs.1,go.1⟩,go.2)
def lf:a7:=⟨0,0,[],[]⟩
def gB(l:List UInt8):a7×Bool:=
 if(fC l).2=true∧(nM (fC l).1 (0,false)).2.2=false∧(nM (fC l).1 (0,false)).2.1=(fC l).1.length∧a8 (nM (fC l).1 (0,false)).1=true
 then((nM (fC l).1 (0,false)).1,true) else(lf,false)
theorem xL{α:Type}{p:iU→α×iU}{Q:α→Prop}(h:∀c,Q (p c).1):∀n c,∀x∈(lu p n c).1,Q x
 |0,c,x,hx=>by simp[lu] at hx
 |n+1,c,x,hx=>by
  simp only[lu] at hx;rcases List.mem_cons.1 hx with rfl|hx
  ·exact h c
  ·exact xL h n _ x hx
theorem yY(l:List UInt8)(most:Nat)(c:iU):(nZ l most c).1.length≤most:=by
 have:=qn l most c;unfold nZ;rw[lG];omega
structure Bn (u:List UInt8) (b:bq):Prop where
 m:b.ae.length≤10
 g:b.gone.length≤40
 n:b.name.length≤u.length
 f:∀m∈b.ae,m.flags.length=3
theorem Dh(u:List UInt8)(c:iU):Bn u (ln u c).1:=by
 have hn:=qn u 10 (ll u c).2;refine⟨?_, ?_, ?_, ?_⟩
 ·simp only[ln,lG];omega
 ·have:=yY u 40 (lu (jG u) (jW u 10 (ll u c).2).1.toNat (jW u 10 (ll u c).2).2).2;exact this
 ·exact pB u _
 ·exact xL (fun c=>vN u c) _ _
theorem Bn.is{u:List UInt8}{b:bq}(h:Bn u b)(hu:u.length≤1048576):iw b:=⟨by have:=h.m;omega,by have:=h.g;omega,by have:=h.n;omega,fun m hm=>by rw[h.f m hm];omega⟩
theorem Db{α:Type}(f:α→List Int)(k:Nat):∀(l:List α),(∀x∈l,(f x).length≤k)→(l.flatMap f).length≤l.length*k
 |[],_=>by simp
 |x::l,h=>by
  have h1:=Db f k l fun y hy=>h y (bo _ hy)
  have h2:=h x (bl ..);have:(l.length+1)*k=l.length*k+k:=Nat.succ_mul _ _;simp only[cj,aD,bV];omega
theorem wC{u:List UInt8}{s:a7}(hu:u.length≤1048576)(h1:s.boxes.length≤10)(h2:s.gone.length≤100)(h3:∀b∈s.boxes,Bn u b):gr s:=by
 refine⟨by omega,by omega,fun b hb=>(h3 b hb).is hu, ?_⟩;have:=Db bZ 10 s.boxes fun b hb=>by rw[jv];exact(h3 b hb).m
 omega
abbrev BV:List T:=[I 0,I 0,.aL 7,.aL 1]
def CS(w t:Int)(i:Nat)(acc:List bq)(v:Nat)(u:List UInt8)(c:iU)(x:kS):List (Nat×Ob):=[(2,⟨x.a,4,true,true,[BV]⟩),(7,⟨x.b,4,true,true,[[I w,I t,if i=0 then .aL 7 else .row 35 x.c 0 i,.aL 1]]⟩),(17,mV v u c)]++if i=0 then [] else [(35,⟨x.c,7,true,false,acc.map af⟩)]
def DN(u:List UInt8)(ok:Bool)(w t:Int)(n i:Nat)(acc:List bq)(c:iU)(x:kS):St:={t:=[(2,.c (.ptr 2 x.a 0 0)),(4,.c (S u)),(5,.c (.bool ok)),(6,.c (.ptr 17 2000176 0 0)),(7,.c (.ptr 7 x.b 0 0)),(26,.c (I n)),(27,.c (I i))],o:=CS w t i acc 2000176 u c x,n:=x.d}
def Fj(u:List UInt8)(ok:Bool)(w t:Int)(n:Nat)(acc:List bq)(c:iU)(x:kS):St:={t:=[(2,.c (.ptr 2 x.a 0 0)),(4,.c (S u)),(5,.c (.bool ok)),(6,.c (.ptr 17 2000176 0 0)),(7,.c (.ptr 7 x.b 0 0)),(26,.c (I n)),(27,.c (I n)),(28,.c (.bool false))],o:=CS w t n acc 2000176 u c x,n:=x.d}
theorem bB.ak(h:bB.k M)(l:List UInt8)(hl:l.length≤1048576):
  run M 76 [.c (S l)] []=some (.lM [.a (a_ (gB l).1),.c (.bool (gB l).2)],[]):=by
 obtain⟨h0,k1,k2,k3,k4,k5,k6⟩:=h;have h1:=eS.ak k4 l (by omega);have hu:(fC l).1.length≤1048576:=by unfold fC;split<;>simp;omega
 unfold gB;generalize fC l=un at*;obtain⟨u,ok⟩:=un;simp only at hu ⊢;have hu2:u.length≤4611686018427387904:=by omega
 have h2:=bL.at k3 u hu2 0 false;have h3:=bL.ak k3 u hu2 (cvar u (0,false)).2;have e0:nM u (0,false)=(⟨(cvar u (0,false)).1,(cvar u (cvar u (0,false)).2).1,(lu (ln u) (jW u 5 (cvar u (cvar u (0,false)).2).2).1.toNat (jW u 5 (cvar u (cvar u (0,false)).2).2).2).1,(nZ u 20 (lu (ln u) (jW u 5 (cvar u (cvar u (0,false)).2).2).1.toNat (jW u 5 (cvar u (cvar u (0,false)).2).2).2).2).1⟩,(nZ u 20 (lu (ln u) (jW u 5 (cvar u (cvar u (0,false)).2).2).1.toNat (jW u 5 (cvar u (cvar u (0,false)).2).2).2).2).2):=rfl;rw[e0];clear e0;generalize cvar u (0,false)=q1 at*;generalize cvar u q1.2=q2 at*;have h4:=dL.ak k5 u hu2 5 q2.2;have hn:=qn u 5 q2.2;generalize jW u 5 q2.2=q3 at*;obtain⟨n,c1⟩:=q3;simp only at hn ⊢;obtain⟨n,rfl⟩:=gJ hn.1;simp only[fB];refine au (b:=bB.m) h0 ⟨n+1, ?_⟩;obtain⟨g,hr⟩:=rH (f:=cz (run M) (n+1) bB.l0) n (ln u) (DN u ok q1.1 q2.1 n) 0 (Fj u ok q1.1 q2.1 n)
  (fun i hi acc c x ha=>by
   obtain⟨v,w,z,x⟩:=x;have h2:=dq.ak k1 u hu2 c;simp only[kS.ex];cases i with
   |zero=>
    have:acc=[]:=aY ha;subst this;simp (maxSteps:=9^9) [bB.l0,setAt,DN,CS,hi,h2,wrap_one,b7,af,ints]
   |succ i=>
    have e5:IntKind.i64.wrap ((i:Int)+1+1)=(i:Int)+1+1:=wrap_i64 (by omega) (by omega);have e6:i+1+1≤4294967296:=by omega
    have e7:(i:Int)+1<n:=by omega
    simp (maxSteps:=9^9) [bB.l0,setAt,DN,CS,e7,h2,e5,e6,ha,b7,af,ints,ab])
  (fun acc c x ha=>by
   obtain⟨v,w,z,x⟩:=x;simp only[kS.ex];by_cases hz:n=0
   ·subst hz;simp (maxSteps:=9^9) [bB.l0,DN,Fj,CS]
   ·simp (maxSteps:=9^9) [bB.l0,DN,Fj,CS,hz]) c1
 have hlen:=lG (ln u) n c1;have hall:=xL (fun c=>Dh u c) n c1;generalize lu (ln u) n c1=q4 at*;have h5:=dp.ak k6 u hu2 20 q4.2;have hgl:=yY u 20 q4.2;simp only[jJ] at hgl;generalize nZ u 20 q4.2=q5 at*;have h6:=aK.ak k2 ⟨q1.1,q2.1,q4.1,q5.1⟩ (wC (u:=u) hu (by simp only[hlen];omega) (by simp only;omega) hall);simp only[aq,boxes,ints,aA] at h6;generalize a8 _=sk at*
 replace hr:=fun a b d=>hr ⟨a,b,0,d⟩
 cases ok
 ·by_cases hz:n=0
  ·subst hz;have hq:q4.1=[]:=aY hlen;simp[DN,Fj,CS] at hr;simp (maxSteps:=9^9) [ba,bB.m,bB.b,aa,setAt,h1,h2,h3,h4,h5,hr,lf,aA,ab]
  ·simp[DN,Fj,CS,hz] at hr;simp (maxSteps:=9^9) [ba,bB.m,bB.b,aa,setAt,h1,h2,h3,h4,h5,hr,lf,aA,ab]
 cases c2:q5.2.2;rotate_left
 ·by_cases hz:n=0
  ·subst hz;have hq:q4.1=[]:=aY hlen;simp[DN,Fj,CS] at hr;simp (maxSteps:=9^9) [ba,bB.m,bB.b,aa,setAt,h1,h2,h3,h4,h5,hr,c2,lf,aA,ab]
  ·simp[DN,Fj,CS,hz] at hr;simp (maxSteps:=9^9) [ba,bB.m,bB.b,aa,setAt,h1,h2,h3,h4,h5,hr,c2,lf,aA,ab]
 by_cases c3:q5.2.1=(u.length:Int);rotate_left
 ·by_cases hz:n=0
  ·subst hz;have hq:q4.1=[]:=aY hlen;simp[DN,Fj,CS] at hr;simp (maxSteps:=9^9) [ba,bB.m,bB.b,aa,setAt,h1,h2,h3,h4,h5,hr,c2,c3,lf,aA,ab]
  ·simp[DN,Fj,CS,hz] at hr;simp (maxSteps:=9^9) [ba,bB.m,bB.b,aa,setAt,h1,h2,h3,h4,h5,hr,c2,c3,lf,aA,ab]
 by_cases hz:n=0
 ·subst hz;have hq:q4.1=[]:=aY hlen;simp only[hq,bS] at h6;simp[DN,Fj,CS] at hr;cases sk<;>simp (maxSteps:=9^9) [ba,bB.m,bB.b,aa,setAt,h1,h2,h3,h4,h5,h6,hr,hq,c2,c3,lf,aA,ab]
 ·simp[DN,Fj,CS,hz] at hr;cases sk<;>simp (maxSteps:=9^9) [ba,bB.m,bB.b,aa,setAt,h1,h2,h3,h4,h5,h6,hr,hlen,c2,c3,lf,aA,ab]
def rX(l:List UInt8):Nat→iU→Option (List bq×iU)
 |0,c=>some ([],c)
 |d+1,c=>if(ln l c).2.2=false∧fA (ln l c).1=true then(rX l d (ln l c).2).map fun r=>((ln l c).1::r.1,r.2) else none
theorem qo(l:List UInt8)(c:iU)(h:c.2=true):(ln l c).2.2=true:=(xP l c).bad h
theorem uR{l:List UInt8}:∀{d:Nat} {c:iU} {r:List bq×iU},rX l d c=some r→lu (ln l) d c=r∧(∀m∈r.1,fA m=true)∧(c.2=false→r.2.2=false)∧r.1.length=d∧∀m∈r.1,Bn l m
 |0,c,r,h=>by simp[rX] at h;subst h;simp[lu]
 |d+1,c,r,h=>by
  simp only[rX] at h;split at h
  ·rename_i hc;simp only[al] at h;obtain⟨q,hq,rfl⟩:=h;obtain⟨h1,h2,h3,h4,h5⟩:=uR hq;refine⟨by simp[lu,h1], ?_,fun _=>h3 hc.1,by simp[h4], ?_⟩
   ·intro m hm;rcases List.mem_cons.1 hm with rfl|hm
    ·exact hc.2
    ·exact h2 m hm
   ·intro m hm;rcases List.mem_cons.1 hm with rfl|hm
    ·exact Dh l c
    ·exact h5 m hm
  ·cases h
theorem y4{l:List UInt8}:∀{d:Nat} {c:iU},rX l d c=none→(lu (ln l) d c).2.2=true∨∃m∈(lu (ln l) d c).1,fA m=false
 |0,c,h=>by simp[rX] at h
 |d+1,c,h=>by
  simp only[rX] at h;split at h
  ·rename_i hc;simp only[Option.map_eq_none_iff] at h;rcases y4 h with h1|⟨m,h1,h2⟩
   ·exact .inl h1
   ·exact .inr ⟨m,bo _ h1,h2⟩
  ·rename_i hc;cases h1:(ln l c).2.2
   ·right;refine⟨_,bl .., ?_⟩;cases h2:fA (ln l c).1
    ·rfl
    ·exact(hc ⟨h1,h2⟩).elim
   ·left;exact lH (qo l) d _ h1
theorem rE{s:a7}(h:(5<s.boxes.length∨20<s.gone.length)∨∃b∈s.boxes,fA b=false):a8 s=false:=by
 cases hb:a8 s
 ·rfl
 ·obtain⟨h1,h2,h3,h4,h5,h6,_⟩:=oS hb;rcases h with (h|h)|⟨m,hm,h⟩
  ·omega
  ·omega
  ·rw[h6 m hm] at h;cases h
def qB(u:List UInt8)(c:iU):Option (a7×iU):=
 let w:=cvar u c
 let t:=cvar u w.2
 let k:=cvar u t.2
 (rX u (Min.min k.1.toNat 6) k.2).map fun ms=>(⟨w.1,t.1,ms.1,(mq u 20 ms.2).1⟩,(mq u 20 ms.2).2)
theorem wI{u:List UInt8}{c:iU}{r:a7×iU}(hr:qB u c=some r):nM u c=r∨(r.2.2=true∨a8 r.1=false)∧(nM u c).2.2=true:=by
 simp only[qB,al] at hr;obtain⟨ms,hms,rfl⟩:=hr;obtain⟨h1,h2,h3,h4,h5⟩:=uR hms;have hn:=oZ u (cvar u (cvar u c).2).2;simp only[nM,jW];generalize cvar u (cvar u (cvar u c).2).2=k at*;by_cases hb:k.2.2=true
 ·right;rw[if_pos (.inr hb)];have hms2:ms.2.2=true:=by rw[←h1];exact lH (qo u) _ _ hb
  refine⟨.inl ?_, ?_⟩
  ·simp only[mq];rw[sx _ _ (pb u _ hms2)];exact pb u _ hms2
  ·exact mw u _ _ (lH (qo u) _ _ rfl)
 ·by_cases ht:5<k.1
  ·right;rw[if_pos (.inl ht)];refine⟨.inr (rE (.inl (.inl ?_))),mw u _ _ (lH (qo u) _ _ rfl)⟩;simp only[h4];omega
  ·rw[if_neg (by rw[not_or];exact⟨ht,hb⟩)];rw[show Min.min k.1.toNat 6=k.1.toNat by omega] at h1;rw[h1];rcases xO u 20 ms.2 with⟨q1,q2⟩|q
   ·right;refine⟨?_,q2⟩;rcases q1 with q1|q1
    ·exact .inl q1
    ·exact .inr (rE (.inl (.inr q1)))
   ·left;rw[q];rfl
theorem Ad{u:List UInt8}{c:iU}(hs:qB u c=none):¬((nM u c).2.2=false∧a8 (nM u c).1=true):=by
 rintro ⟨h3,h4⟩;simp only[qB,Option.map_eq_none_iff] at hs;have hk:=y4 hs;have hn:=oZ u (cvar u (cvar u c).2).2;simp only[nM,jW] at h3 h4;generalize cvar u (cvar u (cvar u c).2).2=k at*;by_cases hb:k.2.2=true
 ·rw[if_pos (.inr hb)] at h3;rw[mw u _ _ (lH (qo u) _ _ rfl)] at h3;cases h3
 ·by_cases ht:5<k.1
  ·rw[if_pos (.inl ht)] at h3;rw[mw u _ _ (lH (qo u) _ _ rfl)] at h3;cases h3
  ·rw[if_neg (by rw[not_or];exact⟨ht,hb⟩)] at h3 h4;rw[show Min.min k.1.toNat 6=k.1.toNat by omega] at hk;rcases hk with hk|⟨m,hm,hk⟩
   ·rw[mw u _ _ hk] at h3;cases h3
   ·rw[rE (.inr ⟨m,hm,hk⟩)] at h4;cases h4
theorem ub(u:List UInt8)(c:iU):nC u c (nM u c).2 (storeT (nM u c).1):=by
 have h1:=(((kO u c).trans (kO u _)).trans (rW u 5 (cvar u (cvar u c).2).2)).trans ((pC (xP u) (jW u 5 (cvar u (cvar u c).2).2).1.toNat (jW u 5 (cvar u (cvar u c).2).2).2).trans (rU u 20 _));have hn:=lG (ln u) (jW u 5 (cvar u (cvar u c).2).2).1.toNat (jW u 5 (cvar u (cvar u c).2).2).2;simp only[storeT,mB,nM,hn];simpa [fP] using h1
theorem Ci(u:List UInt8)(c:iU)(h:c.2=true):(nM u c).2.2=true:=(ub u c).bad h
theorem CK(n:Nat):kJ n≠[]:=by
 unfold kJ;simp
theorem z6{l:List UInt8}(h:(fC l).2=true):kU (fC l).1=(l,true):=by
 unfold fC at h ⊢;split at h
 ·rename_i hc;rw[if_pos hc];simp only[kU];have h1:(l.take (l.length-4)).length=l.length-4:=by simp
  rw[if_neg (by omega),←hc.2.2,da]
 ·cases h
theorem BU{a b:List UInt8}{t:List UInt8}(h:kU a=(t,true))(k:kU b=(t,true)):a=b:=by
 unfold kU at h k;split at h
 ·cases h
 ·split at k
  ·cases k
  ·simp only[aR,and_true] at h k;rw[←k] at h;have hl:=congrArg List.length h;simp only[aD,tZ] at hl;exact(List.append_inj h (by omega)).1
def qH(l:List UInt8):a7×Bool:=match qB (fC l).1 (0,!(fC l).2) with
 |none=>(lf,false)
 |some r=>if r.2.2=false∧(f_ r.1).2=true∧(f_ r.1).1=l then(r.1,true) else(lf,false)
theorem vo(l:List UInt8):qH l=gB l:=by
 unfold qH gB;have hun:= @z6 l;generalize fC l=un at*;obtain⟨u,ok⟩:=un;simp only at hun ⊢;cases ok
 ·simp only[Bool.not_false,aB,false_and,if_false];cases hs:qB u (0,true) with
  |none=>rfl
  |some r=>
   simp only;rw[if_neg];rintro ⟨h1,h2,h3⟩;rcases wI hs with q|⟨q1,q2⟩
   ·have:=Ci u (0,true) rfl;rw[q,h1] at this;cases this
   ·rcases q1 with q1|q1
    ·rw[h1] at q1;cases q1
    ·simp only[f_,q1] at h2;cases h2
 ·have hun:=hun rfl;simp only[Bool.not_true,true_and];cases hs:qB u (0,false) with
  |none=>
   simp only;rw[if_neg fun k=>Ad hs ⟨k.1,k.2.2⟩]
  |some r=>
   simp only;have hsp:=ub u (0,false);rcases wI hs with q|⟨q1,q2⟩
   ·rw[q] at hsp ⊢;have hiff:(r.2.2=false∧(f_ r.1).2=true∧(f_ r.1).1=l)↔(r.2.2=false∧r.2.1=(u.length:Int)∧a8 r.1=true):=by
     constructor
     ·rintro ⟨h1,h2,h3⟩;have hok:a8 r.1=true:=by
       cases hk:a8 r.1
       ·simp only[f_,hk] at h2;cases h2
       ·rfl
      simp only[f_,hok,if_true] at h2 h3;have heq:storeT r.1=u:=BU (Prod.ext h3 h2) hun;refine⟨h1, ?_,hok⟩;obtain⟨_,hle,hx⟩:=hsp h1;simp only at hle hx;rcases hx with⟨hx,_⟩|⟨_,hx2,hx3⟩
      ·exfalso;have:kJ r.1.boxes.length=[]:=by
        simp only[storeT,mB,List.append_eq_nil_iff] at hx;exact hx.1.2.2
       exact CK _ this
      ·rw[heq] at hx3;have:=congrArg List.length hx3;simp at this;omega
     ·rintro ⟨h1,h2,h3⟩;obtain⟨_,hle,hx⟩:=hsp h1;have heq:storeT r.1=u:=by
       simp only at hle hx;rcases hx with⟨hx,hx2⟩|⟨_,hx2,hx3⟩
       ·exfalso;have:kJ r.1.boxes.length=[]:=by
         simp only[storeT,mB,List.append_eq_nil_iff] at hx;exact hx.1.2.2
        exact CK _ this
       ·rw[←hx3,h2];simp
      refine⟨h1, ?_, ?_⟩<;>simp[f_,h3,heq,hun]
    by_cases hc:r.2.2=false∧(f_ r.1).2=true∧(f_ r.1).1=l
    ·rw[if_pos hc,if_pos (hiff.1 hc)]
    ·rw[if_neg hc,if_neg fun k=>hc (hiff.2 k)]
   ·rw[if_neg,if_neg]
    ·rintro ⟨h1,_⟩;rw[q2] at h1;cases h1
    ·rintro ⟨h1,h2,h3⟩;rcases q1 with q1|q1
     ·rw[h1] at q1;cases q1
     ·simp only[f_,q1] at h2;cases h2
def DI(w t:Int)(i:Nat)(acc:List bq)(u:List UInt8)(c:iU)(x:kS):List (Nat×Ob):=[(2,⟨x.a,4,true,true,[BV]⟩),(7,⟨x.b,4,true,true,[[I w,I t,if i=0 then .aL 7 else .row 66 x.c 0 i,.aL 1]]⟩),(24,mV 2000208 u c)]++if i=0 then [] else [(66,⟨x.c,7,true,false,acc.map af⟩)]
def Ae(l u:List UInt8)(w t:Int)(n i:Nat)(acc:List bq)(c:iU)(x:kS):St:={t:=[(0,.c (S l)),(2,.c (.ptr 2 x.a 0 0)),(4,.c (S u)),(6,.c (.ptr 24 2000208 0 0)),(7,.c (.ptr 7 x.b 0 0)),(8,.c (I n)),(9,.c (I i))],o:=DI w t i acc u c x,n:=x.d}
def JB(l u:List UInt8)(w t:Int)(n i:Nat)(acc:List bq)(c:iU)(x:kS):St:={t:=[(0,.c (S l)),(2,.c (.ptr 2 x.a 0 0)),(4,.c (S u)),(6,.c (.ptr 24 2000208 0 0)),(7,.c (.ptr 7 x.b 0 0)),(8,.c (I n)),(9,.c (I i)),(46,.c (.bool false))],o:=DI w t i acc u c x,n:=x.d}
def BL(l u:List UInt8)(w t:Int)(n:Nat)(q:Option (List bq×iU))(m:kS×List (Nat×Ob)):Out×St:=match q with
 |none=>(.ret,{t:=[(2,.c (.ptr 2 m.1.a 0 0)),(3,.c (.bool false))],o:=(2,⟨m.1.a,4,true,true,[BV]⟩)::m.2,n:=m.1.d})
 |some r=>(.exit 0,JB l u w t n r.1.length r.1 r.2 m.1)
theorem Fb(l u:List UInt8)(w t:Int)(n:Nat)(q:Option (List bq×iU))(m:kS×List (Nat×Ob)):(BL l u w t n q m).1≠.normal:=by cases q<;>simp[BL]
theorem bh.loop(k5:bK.k M)(l u:List UInt8)(hl:u.length≤1048576)(w t:Int)(n D:Nat)(hD:Min.min n 6=D)(c:iU)(hc:0<D→c.2=false):
  ∃g:kS→kS×List (Nat×Ob),∀x,fx (cz (run M) (D+1) bh.l0) (D+1) (Ae l u w t n 0 [] c x)=some (BL l u w t n (rX u D c) (g x)):=by
 have:=iN (f:=cz (run M) (D+1) bh.l0) (fun s:Nat×List bq×iU=>Ae l u w t n s.1 s.2.1 s.2.2) (fun s=>s.1≤D∧s.2.1.length=s.1∧(s.1<D→s.2.2.2=false)) (fun s=>D-s.1)
  (fun s=>(rX u (D-s.1) s.2.2).map fun r=>(s.2.1++r.1,r.2)) (BL l u w t n) ?_ (D+1) (0,[],c) ⟨Nat.zero_le _,rfl,hc⟩ (by simp)
 ·simpa using this
 rintro ⟨i,acc,c⟩ x ⟨hi,ha,hc⟩;simp only at hi ha hc;by_cases hlt:i<D
 ·have hc:=hc hlt;obtain⟨ca,cb⟩:=c;simp only at hc;subst hc;have h2:=bK.ak k5 u hl ca;have h3:i<n:=by omega
  have h4:i≤5:=by omega
  have hd:D-i=(D-(i+1))+1:=by omega
  obtain⟨xa,xb,xc,xd⟩:=x;unfold sg at h2;by_cases hk:(ln u (ca,false)).2.2=false∧fA (ln u (ca,false)).1=true
  ·left;rw[if_pos hk] at h2;refine⟨(i+1,acc++[(ln u (ca,false)).1],(ln u (ca,false)).2), ?_⟩;have hcc:(ln u (ca,false)).2=((ln u (ca,false)).2.1,false):=Prod.ext rfl hk.1;have hres:(rX u (D-(i+1)) (ln u (ca,false)).2).map (fun r=>((acc++[(ln u (ca,false)).1])++r.1,r.2))=(rX u (D-i) (ca,false)).map fun r=>(acc++r.1,r.2):=by
    rw[hd,rX,if_pos hk,Option.map_map];congr 1;funext r;simp
   simp only[hres,and_true];have hrun:∃y,cz (run M) (D+1) bh.l0 (Ae l u w t n i acc (ca,false) ⟨xa,xb,xc,xd⟩)=some (.normal,Ae l u w t n (i+1) (acc++[(ln u (ca,false)).1]) (ln u (ca,false)).2 y):=by
    rw[hcc];generalize ln u (ca,false)=r at*;simp only[kS.ex];cases i with
    |zero=>
     have:acc=[]:=aY ha;subst this;simp (maxSteps:=9^9) [bh.l0,setAt,Ae,DI,h2,h3,wrap_one,b7,af,ints]
    |succ i=>
     have e5:IntKind.i64.wrap ((i:Int)+1+1)=(i:Int)+1+1:=wrap_i64 (by omega) (by omega);have e6:i+1+1≤4294967296:=by omega
     have h3':(i:Int)+1<n:=by omega
     have h4':(i:Int)+1≤5:=by omega
     simp (maxSteps:=9^9) [bh.l0,setAt,Ae,DI,h3',h4',h2,e5,e6,ha,b7,af,ints,ab]
   obtain⟨y,hy⟩:=hrun;exact⟨y,hy,⟨hlt,by simp[ha],fun _=>hk.1⟩,by omega⟩
  ·right;rw[if_neg hk] at h2;rw[hd,rX,if_neg hk];have hrun:∃z,cz (run M) (D+1) bh.l0 (Ae l u w t n i acc (ca,false) ⟨xa,xb,xc,xd⟩)=some (BL l u w t n none z):=by
    simp only[aE,kS.ex];cases i with
    |zero=>
     have:acc=[]:=aY ha;subst this;simp (maxSteps:=9^9) [bh.l0,setAt,Ae,DI,BL,h2,h3,yj,aA]
    |succ i=>
     have h3':(i:Int)+1<n:=by omega
     have h4':(i:Int)+1≤5:=by omega
     simp (maxSteps:=9^9) [bh.l0,setAt,Ae,DI,BL,h3',h4',h2,yj,aA]
   obtain⟨z,hz⟩:=hrun;exact⟨z,hz,Fb _ _ _ _ _ _ _⟩
 ·have:i=D:=by omega
  subst this;right;rw[Nat.sub_self];simp only[rX,iF,cR];have hrun:∃z,cz (run M) (i+1) bh.l0 (Ae l u w t n i acc c x)=some (BL l u w t n (some (acc,c)) (z,[])):=by
   obtain⟨xa,xb,xc,xd⟩:=x;simp only[kS.ex];have hx:i=n∨i=6:=by omega
   rcases hx with rfl|rfl
   ·by_cases hz:i=0
    ·subst hz;simp (maxSteps:=9^9) [bh.l0,Ae,JB,BL,DI,ha]
    ·simp (maxSteps:=9^9) [bh.l0,Ae,JB,BL,DI,ha,hz]
   ·by_cases h2:(6:Int)<n
    ·simp (maxSteps:=9^9) [bh.l0,Ae,JB,BL,DI,ha,h2]
    ·simp (maxSteps:=9^9) [bh.l0,Ae,JB,BL,DI,ha,h2]
  obtain⟨z,hz⟩:=hrun;exact⟨(z,[]),hz,Fb _ _ _ _ _ _ _⟩
theorem bh.ak(h:bh.k M)(l:List UInt8)(hl:l.length≤1048576):
  run M 75 [.c (S l)] []=some (.lM [.a (a_ (gB l).1),.c (.bool (gB l).2)],[]):=by
 obtain⟨h0,k5,k1,k2,k4,k3⟩:=h;rw[←vo];have h1:=eO.ak k3 l (by omega);have hu:(fC l).1.length≤1048576:=by unfold fC;split<;>simp;omega
 unfold qH;generalize fC l=un at*;obtain⟨u,ok⟩:=un;simp only at hu ⊢;have hu2:u.length≤4611686018427387904:=by omega
 have h2:=b9.at k2 u hu2 0 (!ok);have h3:=b9.ak k2 u hu2 (cvar u (0,!ok)).2;have h4:=b9.ak k2 u hu2 (cvar u (cvar u (0,!ok)).2).2;have e0:qB u (0,!ok)=(rX u (Min.min (cvar u (cvar u (cvar u (0,!ok)).2).2).1.toNat 6) (cvar u (cvar u (cvar u (0,!ok)).2).2).2).map fun ms=>(⟨(cvar u (0,!ok)).1,(cvar u (cvar u (0,!ok)).2).1,ms.1,(mq u 20 ms.2).1⟩,(mq u 20 ms.2).2):=rfl
 rw[e0];clear e0;generalize cvar u (0,!ok)=q1 at*;generalize cvar u q1.2=q2 at*;have hn:=oZ u q2.2;have hz:(cvar u q2.2).2.2=true→(cvar u q2.2).1=0:=by
  unfold cvar;split
  ·intro _;rfl
  ·intro h;cases h
 generalize cvar u q2.2=q3 at*;obtain⟨n,c1⟩:=q3;simp only at hn hz ⊢;obtain⟨n,rfl⟩:=gJ hn.1;simp only[fB];obtain⟨D,hD⟩:∃D,Min.min n 6=D:=⟨_,rfl⟩
 refine au (b:=bh.m) h0 ⟨D+1, ?_⟩;obtain⟨g,hr⟩:=bh.loop k5 l u hu q1.1 q2.1 n D hD c1 (fun hd=>by
  cases hc:c1.2
  ·rfl
  ·have:=hz hc;omega)
 rw[hD]
 replace hr:=fun a b d=>hr ⟨a,b,0,d⟩
 cases hq:rX u D c1 with
 |none=>
  simp only[hq] at hr;simp[Ae,DI,BL] at hr;simp only[Option.map_none];simp (maxSteps:=9^9) [ba,bh.m,bh.b,aa,setAt,h1,h2,h3,h4,hr,lf,aA]
 |some r=>
  simp only[hq] at hr;simp only[iF];obtain⟨m1,m2,m3,m4,m5⟩:=uR hq;have h7:=dR.ak k4 u hu2 20 (by omega) r.2;simp only[jJ] at h7;have hgl:(mq u 20 r.2).1.length≤21:=by
   unfold mq;exact Nat.le_trans (xK _ _) (by omega)
  have h8:=b6.ak k1 ⟨q1.1,q2.1,r.1,(mq u 20 r.2).1⟩ (wC (u:=u) hu (by simp only[m4];omega) (by simp only;omega) m5);simp only[aq,boxes,ints,aA] at h8;generalize mq u 20 r.2=w at*;generalize f_ _=st at*;obtain⟨s1,s2⟩:=st;by_cases hz:D=0
  ·have hr0:r.1=[]:=aY (by omega);subst hz;simp[Ae,JB,DI,BL,hr0] at hr;simp only[hr0,bS] at h8;cases c1:w.2.2
   ·cases s2
    ·simp (maxSteps:=9^9) [ba,bh.m,bh.b,aa,setAt,h1,h2,h3,h4,h7,h8,hr,c1,lf,aA,ab]
    ·by_cases c3:s1=l<;>simp (maxSteps:=9^9) [ba,bh.m,bh.b,aa,setAt,h1,h2,h3,h4,h7,h8,hr,hr0,c1,c3,lf,aA,ab]
   ·simp (maxSteps:=9^9) [ba,bh.m,bh.b,aa,setAt,h1,h2,h3,h4,h7,h8,hr,c1,lf,aA,ab]
  ·have hz':¬r.1.length=0:=by omega
   have hz'':r.1≠[]:=fun e=>hz' (by rw[e];rfl)
   simp[Ae,JB,DI,BL,hz''] at hr;cases c1:w.2.2
   ·cases s2
    ·simp (maxSteps:=9^9) [ba,bh.m,bh.b,aa,setAt,h1,h2,h3,h4,h7,h8,hr,c1,lf,aA,ab]
    ·by_cases c3:s1=l<;>simp (maxSteps:=9^9) [ba,bh.m,bh.b,aa,setAt,h1,h2,h3,h4,h7,h8,hr,c1,c3,lf,aA,ab]
   ·simp (maxSteps:=9^9) [ba,bh.m,bh.b,aa,setAt,h1,h2,h3,h4,h7,h8,hr,c1,lf,aA,ab]
theorem fF.ak(h:fF.k M)(n:Int):run M 148 [.c (I n)] []=some (.c (.bool (kx 0 n 7)),[]):=by
 have h1:=bP.kx h.2 n 0 7;refine au (b:=fF.m) h.1 ⟨0, ?_⟩;simp (maxSteps:=9^9) [ba,fF.m,fF.b,aa,h1]
structure j8 where
 kind:Int
 box:Int
 gid:Int
 flags:Int
 text:List UInt8
abbrev cp(c:j8):List T:=[I c.kind,I c.box,I c.gid,I c.flags,S c.text]
def wy(c:j8):Bool:=if c.kind=1∨c.kind=2 then nU c.text else if c.kind=4 then decide (c.text.length≤60) else if c.kind=7 then(gB c.text).2 else decide (c.text=[])
def oq(c:j8):Bool:=kx 1 c.kind 7&&(if c.kind=7 then decide (c.box=0) else kx 1 c.box 9999)&&(if c.kind=4∨c.kind=5∨c.kind=6 then kx 1 c.gid 9999 else decide (c.gid=0))&&
 (if c.kind=4∨c.kind=5 then kx 0 c.flags 7 else decide (c.flags=0))&&wy c
theorem eW.ak(h:eW.k M)(c:j8)(hl:c.text.length≤1048576):run M 146 [.a (cp c)] []=some (.c (.bool (wy c)),[]):=by
 obtain⟨h0,k1,k2⟩:=h;have h1:=bh.ak k1 c.text hl;have h2:=dI.ak k2 c.text (by omega);refine au (b:=eW.m) h0 ⟨0, ?_⟩;obtain⟨kind,box,gid,flags,text⟩:=c;simp only[wy] at*;simp only[a_] at h1;by_cases c1:kind=1
 ·subst c1;simp (maxSteps:=9^9) [ba,eW.m,eW.b,aa,h2]
 by_cases c2:kind=2
 ·subst c2;simp (maxSteps:=9^9) [ba,eW.m,eW.b,aa,h2]
 by_cases c4:kind=4
 ·have e60:(text.length:Int)≤60↔text.length≤60:=by omega
  subst c4;simp (maxSteps:=9^9) [ba,eW.m,eW.b,aa,e60]
 by_cases c7:kind=7
 ·subst c7;simp (maxSteps:=9^9) [ba,eW.m,eW.b,aa,setAt,h1]
 ·have e:kM .eql (bs text) {data:= #[]}=some (.bool (decide (text=[]))):=zf text [];simp (maxSteps:=9^9) [ba,eW.m,eW.b,aa,c1,c2,c4,c7,e]
theorem aV.ak(h:aV.k M)(c:j8)(hl:c.text.length≤1048576):run M 58 [.a (cp c)] []=some (.c (.bool (oq c)),[]):=by
 obtain⟨h0,k1,k2⟩:=h;have h1:=eW.ak k2 c hl;have h2:=bE.kx k1 c.kind 1 7;have h3:=bE.kx k1 c.box 1 9999;have h4:=bE.kx k1 c.gid 1 9999;have h5:=bE.kx k1 c.flags 0 7;refine au (b:=aV.m) h0 ⟨0, ?_⟩;unfold oq;generalize wy c=tk at*;simp only[cp] at h1;obtain⟨kind,box,gid,flags,text⟩:=c;simp only at*;cases r1:kx 1 kind 7
 ·simp (maxSteps:=9^9) [ba,aV.m,aV.b,aa,h2,r1]
 have hk:kind=1∨kind=2∨kind=3∨kind=4∨kind=5∨kind=6∨kind=7:=by rw[lE] at r1;omega
 rcases hk with rfl|rfl|rfl|rfl|rfl|rfl|rfl
 ·cases r3:kx 1 box 9999
  ·simp (maxSteps:=9^9) [ba,aV.m,aV.b,aa,h2,r1,h3,r3]
  by_cases c4:gid=0;rotate_left
  ·simp (maxSteps:=9^9) [ba,aV.m,aV.b,aa,h2,r1,h3,r3,c4]
  subst c4;by_cases c5:flags=0;rotate_left
  ·simp (maxSteps:=9^9) [ba,aV.m,aV.b,aa,h2,r1,h3,r3,c5]
  subst c5;simp (maxSteps:=9^9) [ba,aV.m,aV.b,aa,h1,h2,r1,h3,r3]
 ·cases r3:kx 1 box 9999
  ·simp (maxSteps:=9^9) [ba,aV.m,aV.b,aa,h2,r1,h3,r3]
  by_cases c4:gid=0;rotate_left
  ·simp (maxSteps:=9^9) [ba,aV.m,aV.b,aa,h2,r1,h3,r3,c4]
  subst c4;by_cases c5:flags=0;rotate_left
  ·simp (maxSteps:=9^9) [ba,aV.m,aV.b,aa,h2,r1,h3,r3,c5]
  subst c5;simp (maxSteps:=9^9) [ba,aV.m,aV.b,aa,h1,h2,r1,h3,r3]
 ·cases r3:kx 1 box 9999
  ·simp (maxSteps:=9^9) [ba,aV.m,aV.b,aa,h2,r1,h3,r3]
  by_cases c4:gid=0;rotate_left
  ·simp (maxSteps:=9^9) [ba,aV.m,aV.b,aa,h2,r1,h3,r3,c4]
  subst c4;by_cases c5:flags=0;rotate_left
  ·simp (maxSteps:=9^9) [ba,aV.m,aV.b,aa,h2,r1,h3,r3,c5]
  subst c5;simp (maxSteps:=9^9) [ba,aV.m,aV.b,aa,h1,h2,r1,h3,r3]
 ·cases r3:kx 1 box 9999
  ·simp (maxSteps:=9^9) [ba,aV.m,aV.b,aa,h2,r1,h3,r3]
  cases r4:kx 1 gid 9999
  ·simp (maxSteps:=9^9) [ba,aV.m,aV.b,aa,h2,r1,h3,r3,h4,r4]
  cases r5:kx 0 flags 7
  ·simp (maxSteps:=9^9) [ba,aV.m,aV.b,aa,h2,r1,h3,r3,h4,r4,h5,r5]
  simp (maxSteps:=9^9) [ba,aV.m,aV.b,aa,h1,h2,r1,h3,r3,h4,r4,h5,r5]
 ·cases r3:kx 1 box 9999
  ·simp (maxSteps:=9^9) [ba,aV.m,aV.b,aa,h2,r1,h3,r3]
  cases r4:kx 1 gid 9999
  ·simp (maxSteps:=9^9) [ba,aV.m,aV.b,aa,h2,r1,h3,r3,h4,r4]
  cases r5:kx 0 flags 7
  ·simp (maxSteps:=9^9) [ba,aV.m,aV.b,aa,h2,r1,h3,r3,h4,r4,h5,r5]
  simp (maxSteps:=9^9) [ba,aV.m,aV.b,aa,h1,h2,r1,h3,r3,h4,r4,h5,r5]
 ·cases r3:kx 1 box 9999
  ·simp (maxSteps:=9^9) [ba,aV.m,aV.b,aa,h2,r1,h3,r3]
  cases r4:kx 1 gid 9999
  ·simp (maxSteps:=9^9) [ba,aV.m,aV.b,aa,h2,r1,h3,r3,h4,r4]
  by_cases c5:flags=0;rotate_left
  ·simp (maxSteps:=9^9) [ba,aV.m,aV.b,aa,h2,r1,h3,r3,h4,r4,c5]
  subst c5;simp (maxSteps:=9^9) [ba,aV.m,aV.b,aa,h1,h2,r1,h3,r3,h4,r4]
 ·by_cases c3:box=0;rotate_left
  ·simp (maxSteps:=9^9) [ba,aV.m,aV.b,aa,h2,r1,c3]
  subst c3;by_cases c4:gid=0;rotate_left
  ·simp (maxSteps:=9^9) [ba,aV.m,aV.b,aa,h2,r1,c4]
  subst c4;by_cases c5:flags=0;rotate_left
  ·simp (maxSteps:=9^9) [ba,aV.m,aV.b,aa,h2,r1,c5]
  subst c5;simp (maxSteps:=9^9) [ba,aV.m,aV.b,aa,h1,h2,r1]
theorem B1(text:List UInt8):(decide ((bs text).toList=ByteArray.toList {data:= #[]}))=decide (text=[]):=by
 have e:=ot [];have e2:=ot text;simp only[bs] at e e2;simp only[bs,e2];exact congrArg (fun x=>decide (text=x)) e
theorem aN.ak(h:aN.k M)(c:j8)(hl:c.text.length≤1048576):run M 59 [.a (cp c)] []=some (.c (.bool (oq c)),[]):=by
 obtain⟨h0,k1,k2,k3,k4⟩:=h;have h1:=bB.ak k1 c.text hl;have h2:=dP.ak k2 c.text (by omega);have h3:=gg.ak k3 c.box;have h4:=gg.ak k3 c.gid;have h5:=fF.ak k4 c.flags;refine au (b:=aN.m) h0 ⟨0, ?_⟩;unfold oq wy;simp only[a_] at h1;obtain⟨kind,box,gid,flags,text⟩:=c;simp only at*;have e:=B1 text;have e60:(text.length:Int)≤60↔text.length≤60:=by omega
 generalize gB text=rs at*;generalize nU text=nm at*;have q1:kx 1 1 7=true:=rfl;have q2:kx 1 2 7=true:=rfl;have q3:kx 1 3 7=true:=rfl;have q4:kx 1 4 7=true:=rfl;have q5:kx 1 5 7=true:=rfl;have q6:kx 1 6 7=true:=rfl;have q7:kx 1 7 7=true:=rfl;by_cases hk:kind=1∨kind=2∨kind=3∨kind=4∨kind=5∨kind=6∨kind=7;rotate_left
 ·have r1:kx 1 kind 7=false:=by
   rw[Bool.eq_false_iff];intro q;rw[lE] at q;omega
  simp only[not_or] at hk;cases r3:kx 1 box 9999<;>simp (maxSteps:=9^9) [ba,aN.m,aN.b,aa,setAt,h3,r1,r3,hk.1,hk.2.1,hk.2.2.1,hk.2.2.2.1,hk.2.2.2.2.1,hk.2.2.2.2.2.1,hk.2.2.2.2.2.2]
 cases r3:kx 1 box 9999
 ·by_cases k7:kind=7
  ·subst k7;cases b1:rs.2
   ·simp (maxSteps:=9^9) [ba,aN.m,aN.b,aa,setAt,h1,h3,r3,q7,b1]
   by_cases c3:box=0;rotate_left
   ·simp (maxSteps:=9^9) [ba,aN.m,aN.b,aa,setAt,h1,h3,r3,q7,b1,c3]
   subst c3;by_cases c4:gid=0;rotate_left
   ·simp (maxSteps:=9^9) [ba,aN.m,aN.b,aa,setAt,h1,h3,r3,q7,b1,c4]
   subst c4;by_cases c5:flags=0;rotate_left
   ·simp (maxSteps:=9^9) [ba,aN.m,aN.b,aa,setAt,h1,h3,r3,q7,b1,c5]
   subst c5;simp (maxSteps:=9^9) [ba,aN.m,aN.b,aa,setAt,h1,h3,r3,q7,b1]
  rcases hk with rfl|rfl|rfl|rfl|rfl|rfl|rfl
  ·simp (maxSteps:=9^9) [ba,aN.m,aN.b,aa,setAt,h3,r3,q1]
  ·simp (maxSteps:=9^9) [ba,aN.m,aN.b,aa,setAt,h3,r3,q2]
  ·simp (maxSteps:=9^9) [ba,aN.m,aN.b,aa,setAt,h3,r3,q3]
  ·simp (maxSteps:=9^9) [ba,aN.m,aN.b,aa,setAt,h3,r3,q4]
  ·simp (maxSteps:=9^9) [ba,aN.m,aN.b,aa,setAt,h3,r3,q5]
  ·simp (maxSteps:=9^9) [ba,aN.m,aN.b,aa,setAt,h3,r3,q6]
  ·exact absurd rfl k7
 rcases hk with rfl|rfl|rfl|rfl|rfl|rfl|rfl
 ·by_cases c4:gid=0;rotate_left
  ·simp (maxSteps:=9^9) [ba,aN.m,aN.b,aa,setAt,h3,r3,q1,c4]
  subst c4;by_cases c5:flags=0;rotate_left
  ·simp (maxSteps:=9^9) [ba,aN.m,aN.b,aa,setAt,h3,r3,q1,c5]
  subst c5;simp (maxSteps:=9^9) [ba,aN.m,aN.b,aa,setAt,h2,h3,r3,q1]
 ·by_cases c4:gid=0;rotate_left
  ·simp (maxSteps:=9^9) [ba,aN.m,aN.b,aa,setAt,h3,r3,q2,c4]
  subst c4;by_cases c5:flags=0;rotate_left
  ·simp (maxSteps:=9^9) [ba,aN.m,aN.b,aa,setAt,h3,r3,q2,c5]
  subst c5;simp (maxSteps:=9^9) [ba,aN.m,aN.b,aa,setAt,h2,h3,r3,q2]
 ·by_cases c4:gid=0;rotate_left
  ·simp (maxSteps:=9^9) [ba,aN.m,aN.b,aa,setAt,h3,r3,q3,c4]
  subst c4;by_cases c5:flags=0;rotate_left
  ·simp (maxSteps:=9^9) [ba,aN.m,aN.b,aa,setAt,h3,r3,q3,c5]
  subst c5;simp (maxSteps:=9^9) [ba,aN.m,aN.b,aa,setAt,h3,r3,q3]
 ·cases r4:kx 1 gid 9999
  ·simp (maxSteps:=9^9) [ba,aN.m,aN.b,aa,setAt,h3,h4,r3,r4,q4]
  cases r5:kx 0 flags 7
  ·simp (maxSteps:=9^9) [ba,aN.m,aN.b,aa,setAt,h3,h4,h5,r3,r4,r5,q4]
  simp (maxSteps:=9^9) [ba,aN.m,aN.b,aa,setAt,h3,h4,h5,r3,r4,r5,q4,e60]
 ·by_cases c6:text=[];rotate_left
  ·simp (maxSteps:=9^9) [ba,aN.m,aN.b,aa,setAt,h3,r3,q5,c6]
  cases r4:kx 1 gid 9999
  ·simp (maxSteps:=9^9) [ba,aN.m,aN.b,aa,setAt,h3,h4,r3,r4,q5,c6]
  cases r5:kx 0 flags 7
  ·simp (maxSteps:=9^9) [ba,aN.m,aN.b,aa,setAt,h3,h4,h5,r3,r4,r5,q5,c6]
  simp (maxSteps:=9^9) [ba,aN.m,aN.b,aa,setAt,h3,h4,h5,r3,r4,r5,q5,c6]
 ·by_cases c5:flags=0;rotate_left
  ·simp (maxSteps:=9^9) [ba,aN.m,aN.b,aa,setAt,h3,r3,q6,c5]
  subst c5;by_cases c6:text=[];rotate_left
  ·simp (maxSteps:=9^9) [ba,aN.m,aN.b,aa,setAt,h3,r3,q6,c6]
  cases r4:kx 1 gid 9999
  ·simp (maxSteps:=9^9) [ba,aN.m,aN.b,aa,setAt,h3,h4,r3,r4,q6,c6]
  simp (maxSteps:=9^9) [ba,aN.m,aN.b,aa,setAt,h3,h4,r3,r4,q6,c6]
 ·cases b1:rs.2
  ·simp (maxSteps:=9^9) [ba,aN.m,aN.b,aa,setAt,h1,h3,r3,q7,b1]
  by_cases c3:box=0
  ·subst c3;cases r3
  simp (maxSteps:=9^9) [ba,aN.m,aN.b,aa,setAt,h1,h3,r3,q7,b1,c3]
end Mx
namespace Mx
open Go
theorem zp{l:List UInt8}(h:(gB l).2=true):a8 (gB l).1=true∧kU (storeT (gB l).1)=(l,true):=by
 rw[←vo] at h ⊢;unfold qH at h ⊢;cases hs:qB (fC l).1 (0,!(fC l).2) with
 |none=>rw[hs] at h;cases h
 |some r=>
  rw[hs] at h;simp only at h ⊢;split at h
  ·rename_i hc;rw[if_pos hc];obtain⟨h1,h2,h3⟩:=hc;cases hk:a8 r.1
   ·simp only[f_,hk] at h2;cases h2
   ·simp only[f_,hk,if_true] at h2 h3;exact⟨rfl,Prod.ext h3 h2⟩
  ·cases h
end Mx
namespace Mx
open Go
variable {M:Nat→Option Body}
def rv:j8:=⟨0,0,0,0,[]⟩
def y0(l:List UInt8)(k:Int):j8×iU:=
 let b:=cvar l (1,false)
 let g:=cvar l b.2
 let f:=cvar l g.2
 let t:=ij l f.2
 (⟨k,b.1,g.1,f.1,t.1⟩,t.2)
def iu(l:List UInt8):j8×Bool:=match l with
 |[]=>(rv,false)
 |k::_=>if(y0 l k.toNat).2.2=false∧(y0 l k.toNat).2.1=l.length∧oq (y0 l k.toNat).1=true then((y0 l k.toNat).1,true) else(rv,false)
theorem vO(k:UInt8):IntKind.i64.wrap (k.toNat:Int)=(k.toNat:Int):=by
 have:=k.toNat_lt;exact wrap_i64 (by omega) (by omega)
theorem C3(l:List UInt8):kM .eql (bs l) {data:= #[]}=some (.bool (decide (l=[]))):=zf l []
theorem eT.ak(h:eT.k M)(l:List UInt8)(hl:l.length≤1048576):run M 65 [.c (S l)] []=some (.lM [.a (cp (iu l).1),.c (.bool (iu l).2)],[]):=by
 obtain⟨h0,k1,k2,k3⟩:=h;refine au (b:=eT.m) h0 ⟨0, ?_⟩;have e:=C3 l;cases l with
 |nil=>simp (maxSteps:=9^9) [ba,eT.m,eT.b,aa,setAt,e,iu,rv]
 |cons k l=>
  have hl2:(k::l).length≤4611686018427387904:=by omega
  have h1:=bL.at k2 (k::l) hl2 1 false;have h2:=bL.ak k2 (k::l) hl2 (cvar (k::l) (1,false)).2;have h3:=bL.ak k2 (k::l) hl2 (cvar (k::l) (cvar (k::l) (1,false)).2).2;have h4:=dX.ak k3 (k::l) hl2 (cvar (k::l) (cvar (k::l) (cvar (k::l) (1,false)).2).2).2;have hlen:=pB (k::l) (cvar (k::l) (cvar (k::l) (cvar (k::l) (1,false)).2).2).2;have e0:y0 (k::l) k.toNat=(⟨k.toNat,(cvar (k::l) (1,false)).1,(cvar (k::l) (cvar (k::l) (1,false)).2).1,(cvar (k::l) (cvar (k::l) (cvar (k::l) (1,false)).2).2).1,(ij (k::l) (cvar (k::l) (cvar (k::l) (cvar (k::l) (1,false)).2).2).2).1⟩,(ij (k::l) (cvar (k::l) (cvar (k::l) (cvar (k::l) (1,false)).2).2).2).2):=rfl;simp only[iu];rw[e0];clear e0;have ew:=vO k;have eg:(bs (k::l))[0]'(by simp)=k:=by rw[d_];rfl
  generalize cvar (k::l) (1,false)=q1 at*;generalize cvar (k::l) q1.2=q2 at*;generalize cvar (k::l) q2.2=q3 at*;generalize ij (k::l) q3.2=q4 at*;have h5:=aN.ak k1 ⟨k.toNat,q1.1,q2.1,q3.1,q4.1⟩ (by simp only;omega);simp only[cp] at h5;generalize oq _=ok at*;cases c2:q4.2.2;rotate_left
  ·simp (maxSteps:=9^9) [ba,eT.m,eT.b,aa,d_,setAt,e,ew,h1,h2,h3,h4,c2,rv]
  by_cases c3:q4.2.1=((k::l).length:Int);rotate_left
  ·simp at c3;simp (maxSteps:=9^9) [ba,eT.m,eT.b,aa,d_,setAt,e,ew,h1,h2,h3,h4,c2,c3,rv]
  simp at c3;cases ok<;>simp (maxSteps:=9^9) [ba,eT.m,eT.b,aa,d_,setAt,e,ew,h1,h2,h3,h4,h5,c2,c3,rv]
theorem ee.ak(h:ee.k M)(l:List UInt8)(hl:l.length≤1048576):run M 64 [.c (S l)] []=some (.lM [.a (cp (iu l).1),.c (.bool (iu l).2)],[]):=by
 obtain⟨h0,k1,k2,k3⟩:=h;refine au (b:=ee.m) h0 ⟨0, ?_⟩;have e:=C3 l;cases l with
 |nil=>simp (maxSteps:=9^9) [ba,ee.m,ee.b,aa,setAt,e,iu,rv]
 |cons k l=>
  have hl2:(k::l).length≤4611686018427387904:=by omega
  have h1:=b9.at k2 (k::l) hl2 1 false;have h2:=b9.ak k2 (k::l) hl2 (cvar (k::l) (1,false)).2;have h3:=b9.ak k2 (k::l) hl2 (cvar (k::l) (cvar (k::l) (1,false)).2).2;have h4:=fM.ak k3 (k::l) hl2 (cvar (k::l) (cvar (k::l) (cvar (k::l) (1,false)).2).2).2;have hlen:=pB (k::l) (cvar (k::l) (cvar (k::l) (cvar (k::l) (1,false)).2).2).2;have e0:y0 (k::l) k.toNat=(⟨k.toNat,(cvar (k::l) (1,false)).1,(cvar (k::l) (cvar (k::l) (1,false)).2).1,(cvar (k::l) (cvar (k::l) (cvar (k::l) (1,false)).2).2).1,(ij (k::l) (cvar (k::l) (cvar (k::l) (cvar (k::l) (1,false)).2).2).2).1⟩,(ij (k::l) (cvar (k::l) (cvar (k::l) (cvar (k::l) (1,false)).2).2).2).2):=rfl;simp only[iu];rw[e0];clear e0;have ew:=vO k;have eg:(bs (k::l))[0]'(by simp)=k:=by rw[d_];rfl
  generalize cvar (k::l) (1,false)=q1 at*;generalize cvar (k::l) q1.2=q2 at*;generalize cvar (k::l) q2.2=q3 at*;generalize ij (k::l) q3.2=q4 at*;have h5:=aV.ak k1 ⟨k.toNat,q1.1,q2.1,q3.1,q4.1⟩ (by simp only;omega);simp only[cp] at h5;generalize oq _=ok at*;cases c2:q4.2.2;rotate_left
  ·simp (maxSteps:=9^9) [ba,ee.m,ee.b,aa,d_,setAt,e,ew,h1,h2,h3,h4,c2,rv]
  by_cases c3:q4.2.1=((k::l).length:Int);rotate_left
  ·simp at c3;simp (maxSteps:=9^9) [ba,ee.m,ee.b,aa,d_,setAt,e,ew,h1,h2,h3,h4,c2,c3,rv]
  simp at c3;cases ok<;>simp (maxSteps:=9^9) [ba,ee.m,ee.b,aa,d_,setAt,e,ew,h1,h2,h3,h4,h5,c2,c3,rv]
theorem zq(l:List UInt8):(iu l).1.text.length≤l.length:=by
 unfold iu;cases l with
 |nil=>simp[rv]
 |cons k l=>
  simp only;split
  ·exact pB _ _
  ·simp[rv]
end Mx
namespace Mx
open Go
def la(l:List Int)(x:Int):List Int:=l.filter (fun y=>decide (y<x))++[x]++l.filter (fun y=>decide (x<y))
def kz(l:List Int)(x:Int):List Int:=if x∈l then l else la l x
def aQ(a b:List Int):List Int:=(a++b).foldl kz []
abbrev ym(l:List Int):Prop:=l.Pairwise (·<·)
theorem zV:∀{a b:List Int},ym a→ym b→(∀x,x∈a↔x∈b)→a=b
 |[],[],_,_,_=>rfl
 |[],y::b,_,_,h=>absurd ((h y).2 (bl ..)) (by simp)
 |x::a,[],_,_,h=>absurd ((h x).1 (bl ..)) (by simp)
 |x::a,y::b,ha,hb,h=>by
  obtain⟨ha1,ha2⟩:=List.pairwise_cons.1 ha;obtain⟨hb1,hb2⟩:=List.pairwise_cons.1 hb;have e:x=y:=by
   rcases List.mem_cons.1 ((h x).1 (bl ..)) with q|q
   ·exact q
   ·rcases List.mem_cons.1 ((h y).2 (bl ..)) with q'|q'
    ·exact q'.symm
    ·have:=ha1 y q';have:=hb1 x q;omega
  subst e;congr 1;refine zV ha2 hb2 fun z=>⟨fun hz=> ?_,fun hz=> ?_⟩
  ·rcases List.mem_cons.1 ((h z).1 (bo _ hz)) with q|q
   ·have:=ha1 z hz;omega
   ·exact q
  ·rcases List.mem_cons.1 ((h z).2 (bo _ hz)) with q|q
   ·have:=hb1 z hz;omega
   ·exact q
theorem qi{l:List Int}{x z:Int}:z∈la l x↔z=x∨z∈l:=by
 simp only[la,iG,fO,decide_eq_true_eq,iV];constructor
 ·rintro ((⟨h,_⟩|h)|⟨h,_⟩)
  ·exact .inr h
  ·exact .inl h
  ·exact .inr h
 ·rintro (h|h)
  ·exact .inl (.inr h)
  ·by_cases c:z<x
   ·exact .inl (.inl ⟨h,c⟩)
   ·by_cases c2:z=x
    ·exact .inl (.inr c2)
    ·exact .inr ⟨h,by omega⟩
theorem tW{l:List Int}{x:Int}(h:ym l):ym (la l x):=by
 simp only[la,ym,List.pairwise_append,List.pairwise_singleton,fO,decide_eq_true_eq,iV,iG];refine⟨⟨h.filter _,trivial, ?_⟩,h.filter _, ?_⟩
 ·rintro a ⟨_,ha⟩ b rfl;exact ha
 ·rintro a (⟨_,ha⟩|rfl) b ⟨_,hb⟩<;>omega
theorem F1{l:List Int}{x z:Int}:z∈kz l x↔z=x∨z∈l:=by
 unfold kz;split
 ·rename_i h;constructor
  ·exact .inr
  ·rintro (rfl|q)
   ·exact h
   ·exact q
 ·exact qi
theorem F2{l:List Int}{x:Int}(h:ym l):ym (kz l x):=by
 unfold kz;split
 ·exact h
 ·exact tW h
theorem yR:∀(l acc:List Int) (z:Int),z∈l.foldl kz acc↔z∈l∨z∈acc
 |[],acc,z=>by simp
 |x::l,acc,z=>by
  simp only[eN,yR l,F1,uo];constructor
  ·rintro (h|h|h)
   ·exact .inl (.inr h)
   ·exact .inl (.inl h)
   ·exact .inr h
  ·rintro ((h|h)|h)
   ·exact .inr (.inl h)
   ·exact .inl h
   ·exact .inr (.inr h)
theorem yS:∀(l acc:List Int),ym acc→ym (l.foldl kz acc)
 |[],acc,h=>h
 |x::l,acc,h=>yS l _ (F2 h)
theorem nV(a b:List Int):ym (aQ a b):=yS _ _ List.Pairwise.nil
theorem iQ(a b:List Int)(z:Int):z∈aQ a b↔z∈a∨z∈b:=by unfold aQ;rw[yR];simp
theorem xu(l:List Int)(x:Int):(kz l x).length≤l.length+1:=by
 unfold kz;split
 ·omega
 ·simp only[la,aD,bM];have:∀l:List Int,(l.filter fun y=>decide (y<x)).length+(l.filter fun y=>decide (x<y)).length≤l.length:=by
   intro l
   induction l with
   |nil=>simp
   |cons y l ih=>
    simp only[iI];by_cases h1:y<x
    ·have h2:¬x<y:=by omega
     simp[h1,h2];omega
    ·by_cases h2:x<y
     ·simp[h1,h2];omega
     ·simp[h1,h2];omega
  have:=this l;omega
theorem ss:∀(l acc:List Int),(l.foldl kz acc).length≤l.length+acc.length
 |[],acc=>by simp
 |x::l,acc=>by
  have h1:=ss l (kz acc x);have h2:=xu acc x;simp only[eN,bV];omega
def dedup:List Int→List Int
 |[]=>[]
 |x::l=>x::(go x l)
where go:Int→List Int→List Int
 |_,[]=>[]
 |p,x::l=>if x=p then go x l else x::go x l
theorem qV:∀(l:List Int) (p z:Int),z∈dedup.go p l→z∈l
 |[],p,z,h=>by simp[dedup.go] at h
 |x::l,p,z,h=>by
  simp only[dedup.go] at h;split at h
  ·exact bo _ (qV l x z h)
  ·rcases List.mem_cons.1 h with rfl|h
   ·exact bl ..
   ·exact bo _ (qV l x z h)
theorem qK:∀(l:List Int) (p z:Int),z∈l→z=p∨z∈dedup.go p l
 |[],p,z,h=>by simp at h
 |x::l,p,z,h=>by
  simp only[dedup.go];split
  ·rename_i e;subst e;rcases List.mem_cons.1 h with q|q
   ·exact .inl q
   ·exact qK l x z q
  ·rcases List.mem_cons.1 h with q|q
   ·exact .inr (by rw[q];exact bl ..)
   ·rcases qK l x z q with q|q
    ·exact .inr (by rw[q];exact bl ..)
    ·exact .inr (bo _ q)
theorem ua:∀(l:List Int) (p:Int),l.Pairwise (·≤·)→(∀z∈l,p≤z)→ym (dedup.go p l)∧∀z∈dedup.go p l,p<z
 |[],p,_,_=>by simp[dedup.go]
 |x::l,p,h,hp=>by
  obtain⟨h1,h2⟩:=List.pairwise_cons.1 h;have hx:=hp x (bl ..);obtain⟨k1,k2⟩:=ua l x h2 h1;simp only[dedup.go];split
  ·rename_i e;exact⟨k1,fun z hz=>by have:=k2 z hz;omega⟩
  ·rename_i e;refine⟨List.pairwise_cons.2 ⟨k2,k1⟩,fun z hz=> ?_⟩;rcases List.mem_cons.1 hz with rfl|hz
   ·omega
   ·have:=k2 z hz;omega
theorem Ea{l:List Int}(h:l.Pairwise (·≤·)):ym (dedup l):=by
 cases l with
 |nil=>exact List.Pairwise.nil
 |cons x l=>
  obtain⟨h1,h2⟩:=List.pairwise_cons.1 h;obtain⟨k1,k2⟩:=ua l x h2 h1;exact List.pairwise_cons.2 ⟨k2,k1⟩
theorem D_{l:List Int}{z:Int}:z∈dedup l↔z∈l:=by
 cases l with
 |nil=>simp[dedup]
 |cons x l=>
  simp only[dedup,uo];constructor
  ·rintro (h|h)
   ·exact .inl h
   ·exact .inr (qV l x z h)
  ·rintro (h|h)
   ·exact .inl h
   ·exact qK l x z h
theorem yi(l:List Int):Lib.compact l=dedup l:=by
 have key:∀(d:Array Int) (m:Nat) (l:List Int) (p:Int),0<m→m+l.length=d.size→d.toList.drop m=l→d[m-1]! =p→((List.range' m l.length).filter (Lib.keeps d)).map (d[·]!)=dedup.go p l:=by
  intro d m l
  induction l generalizing m with
  |nil=>intro p _ _ _ _;rfl
  |cons x l ih=>
   intro p hm hl hd hp;have hlt:m<d.size:=by simp at hl;omega
   have hx:d[m]! =x:=by
    rw[getElem!_pos d m hlt];have:=congrArg (·[0]?) hd;simpa [hlt] using this
   have ih':=ih (m+1) x (by omega) (by simp at hl;omega) (by rw[←List.tail_drop,hd];rfl) (by simpa using hx);simp only[bV,List.range'_succ,iI,dedup.go];by_cases e:x=p
   ·have hk:Lib.keeps d m=false:=Lib.keeps_neg hm (by rw[hx,hp,e]);rw[if_pos e,hk];simpa using ih'
   ·have hk:Lib.keeps d m=true:=Lib.keeps_pos (by rw[hx,hp];exact e);rw[if_neg e,hk];simp only[if_true,bu,hx,ih']
 cases l with
 |nil=>rfl
 |cons x l=>
  have hk:Lib.keeps (x::l).toArray 0=true:=Lib.keeps_lt_one _ 0 (by omega);unfold Lib.compact Lib.compactUpTo;rw[List.range_eq_range',bV,List.range'_succ,iI,hk];simp only[if_true,bu,dedup];congr 1;exact key (x::l).toArray 1 l x (by omega) (by simp;omega) (by simp) (by simp)
theorem AZ(l:List Int):(Lib.compact l).length≤l.length:=by
 unfold Lib.compact Lib.compactUpTo;rw[eM];refine Nat.le_trans (bG _ _) ?_;simp
theorem sU(a b:List Int):Lib.compact (lQ (a++b))=aQ a b:=by
 rw[yi];have hs:(lQ (a++b)).Pairwise (·≤·):=by
  have:=List.pairwise_mergeSort (le:=fun x y:Int=>decide (x≤y)) (fun a b c h1 h2=>by simp only[decide_eq_true_eq] at*;omega) (fun a b=>by simp only[Bool.or_eq_true,decide_eq_true_eq];omega) (a++b);exact this.imp fun h=>by simpa using h
 refine zV (Ea hs) (nV a b) fun z=> ?_
 rw[D_,iQ];simp[lQ]
end Mx
namespace Mx
open Go
variable {M:Nat→Option Body}
theorem eR.ak(h:eR.k M)(l:List Int)(hx:l.length≤1048576):run M 134 [.c (ints l)] []=some (.c (.sl true 1 (aA l)),[]):=by
 have h1:l.length≤4294967296:=by omega
 refine au (b:=eR.m) h ⟨0, ?_⟩;simp[ba,eR.m,eR.b,aa,ab,h1]
def Lu(l:List Int)(x:Int)(i:Nat)(s:List Int)(m:Nat×Nat):St:={t:=[(0,.c (ints l)),(1,.c (I x)),(5,.c (.row 8 m.1 0 s.length)),(6,.c (I i))],o:=[(8,⟨m.1,1,true,false,aA s⟩)],n:=m.2}
def MW(l:List Int)(x:Int)(s:List Int)(m:Nat×Nat):St:={t:=[(0,.c (ints l)),(1,.c (I x)),(5,.c (.row 8 m.1 0 s.length)),(6,.c (I l.length)),(12,.c (.bool false))],o:=[(8,⟨m.1,1,true,false,aA s⟩)],n:=m.2}
def Lt(l:List Int)(x:Int)(i:Nat)(s:List Int)(m:Nat×Nat):St:={t:=[(0,.c (ints l)),(1,.c (I x)),(5,.c (.row 8 m.1 0 s.length)),(7,.c (I i))],o:=[(8,⟨m.1,1,true,false,aA s⟩)],n:=m.2}
def MV(l:List Int)(x:Int)(s:List Int)(m:Nat×Nat):St:={t:=[(0,.c (ints l)),(1,.c (I x)),(5,.c (.row 8 m.1 0 s.length)),(7,.c (I l.length)),(35,.c (.bool false))],o:=[(8,⟨m.1,1,true,false,aA s⟩)],n:=m.2}
theorem vH(p:Int→Bool):∀(l s:List Int),l.foldl (fun s a=>if p a=true then s++[a] else s) s=s++l.filter p
 |[],s=>by simp
 |a::l,s=>by
  rw[eN,vH p l,iI];by_cases h:p a=true<;>simp[h]
theorem o_(s:List Int)(a:Int):aA (s++[a])=aA s++[[I a]]:=by simp[aA]
theorem aS(s:List Int):(aA s).length=s.length:=by simp[aA]
theorem bU.ak(h:bU.k M)(l:List Int)(x:Int)(hl:l.length≤16777216):run M 133 [.c (ints l),.c (I x)] []=some (.c (.sl true 1 (aA (la l x))),[]):=by
 refine au (b:=bU.m) h ⟨l.length+1, ?_⟩;obtain⟨g,hr⟩:=jB (f:=cz (run M) (l.length+1) bU.l0) l (fun s a=>if decide (a<x)=true then s++[a] else s) (fun i s=>s.length≤i) (Lu l x) 0 (MW l x)
  (fun i h s hs=>by split<;>(try simp)<;>omega)
  (fun i hi s m hs=>by
   obtain⟨v,m⟩:=m;have e5:=cA (i:=i) (by omega);have e6:s.length+1≤4294967296:=by omega
   have e9:=aS s;simp only[aE];by_cases c:l[i]<x
   ·simp only[c,decide_true,if_true,Lu,o_];generalize aA s=rr at*;simp (maxSteps:=9^9) [bU.l0,hi,c,e5,e6,e9,ab]
   ·simp only[c,decide_false,aB,if_false];simp (maxSteps:=9^9) [bU.l0,Lu,hi,c,e5])
  (fun s m hs=>by
   obtain⟨v,m⟩:=m;simp only[aE];simp (maxSteps:=9^9) [bU.l0,Lu,MW]) [] (by simp)
 obtain⟨g',hr'⟩:=jB (f:=cz (run M) (l.length+1) bU.l1) l (fun s a=>if decide (x<a)=true then s++[a] else s) (fun i s=>s.length≤l.length+1+i) (Lt l x) 2 (MV l x)
  (fun i h s hs=>by split<;>(try simp)<;>omega)
  (fun i hi s m hs=>by
   obtain⟨v,m⟩:=m;have e5:=cA (i:=i) (by omega);have e6:s.length+1≤4294967296:=by omega
   have e9:=aS s;simp only[aE];by_cases c:x<l[i]
   ·simp only[c,decide_true,if_true,Lt,o_];generalize aA s=rr at*;simp (maxSteps:=9^9) [bU.l1,hi,c,e5,e6,e9,ab]
   ·simp only[c,decide_false,aB,if_false];simp (maxSteps:=9^9) [bU.l1,Lt,hi,c,e5])
  (fun s m hs=>by
   obtain⟨v,m⟩:=m;simp only[aE];simp (maxSteps:=9^9) [bU.l1,Lt,MV]) (l.filter (fun y=>decide (y<x))++[x]) (by have:=bG (fun y=>decide (y<x)) l;simp;omega)
 rw[vH] at hr hr';have hfl:=bG (fun y=>decide (y<x)) l;have e6:(l.filter (fun y=>decide (y<x))).length+1≤4294967296:=by omega
 have e9:=aS (l.filter (fun y=>decide (y<x)));have e10:=aS (l.filter (fun y=>decide (y<x))++[x]++l.filter (fun y=>decide (x<y)));have e11:(l.filter (fun y=>decide (y<x))++[x]++l.filter (fun y=>decide (x<y))).length=(l.filter (fun y=>decide (y<x))).length+((l.filter (fun y=>decide (x<y))).length+1):=by simp only[aD,bM];omega
 rw[e11] at e10;have e12:=o_ (l.filter (fun y=>decide (y<x))) x;unfold la;simp only[List.nil_append] at hr;simp only[Lu,MW,dy] at hr;simp only[Lt,MV,e12,e11,aD,bM] at hr';generalize aA (l.filter (fun y=>decide (y<x))++[x]++l.filter (fun y=>decide (x<y)))=r2 at*;generalize aA (l.filter (fun y=>decide (y<x)))=r1 at*;simp[aA] at hr;simp at hr';simp (maxSteps:=9^9) [ba,bU.m,bU.b,aa,hr,hr',e6,e9,e10,ab]
structure GX where
 w:Nat
 v8:Nat
 v1:Nat
 v2:Nat
 r8:List (List T)
 r1:List (List T)
 n:Nat
def G7(s:List Int)(x:GX):List (Nat×Ob):=match x.w with
 |0=>[(8,⟨x.v8,1,true,false,aA s⟩)]
 |_=>[(8,⟨x.v8,1,true,false,x.r8⟩),(12700,⟨x.v1,1,true,false,aA s⟩)]
def G6(s:List Int)(x:GX):T:=match x.w with
 |0=> .row 8 x.v8 0 s.length
 |_=> .row 12700 x.v1 0 s.length
def gO(s:List Int)(x:GX):List (Nat×Ob):=match x.w with
 |0=>[(8,⟨x.v8,1,true,false,aA s⟩)]
 |1=>[(8,⟨x.v8,1,true,false,x.r8⟩),(12700,⟨x.v1,1,true,false,aA s⟩)]
 |2=>[(8,⟨x.v8,1,true,false,x.r8⟩),(14600,⟨x.v2,1,true,false,aA s⟩)]
 |_=>[(8,⟨x.v8,1,true,false,x.r8⟩),(12700,⟨x.v1,1,true,false,x.r1⟩),(14600,⟨x.v2,1,true,false,aA s⟩)]
def gR(s:List Int)(x:GX):T:=match x.w with
 |0=> .row 8 x.v8 0 s.length
 |1=> .row 12700 x.v1 0 s.length
 |_=> .row 14600 x.v2 0 s.length
theorem GX.of{p:GX→Prop}(w r8 r1)(h:∃v8 v1 v2 n,p ⟨w,v8,v1,v2,r8,r1,n⟩):∃x,p x:=by
 obtain⟨v8,v1,v2,n,h⟩:=h;exact⟨_,h⟩
def FY(a b:List Int)(i:Nat)(s:List Int)(x:GX):St:={t:=[(0,.c (ints a)),(1,.c (ints b)),(5,.c (G6 s x)),(6,.c (I i))],o:=G7 s x,n:=x.n}
def Lv(a b:List Int)(s:List Int)(x:GX):St:={t:=[(0,.c (ints a)),(1,.c (ints b)),(5,.c (G6 s x)),(6,.c (I a.length)),(12,.c (.bool false))],o:=G7 s x,n:=x.n}
def wh(b:List Int)(i:Nat)(s:List Int)(x:GX):St:={t:=[(1,.c (ints b)),(5,.c (gR s x)),(7,.c (I i))],o:=gO s x,n:=x.n}
def C_(b:List Int)(s:List Int)(x:GX):St:={t:=[(1,.c (ints b)),(5,.c (gR s x)),(7,.c (I b.length)),(31,.c (.bool false))],o:=gO s x,n:=x.n}
theorem kX(l:List Int):(aA l).all (fun r=>r.all T.scalar)=true:=by simp[aA,T.scalar]
theorem aT.KZ(k1:bf.k M)(k2:bU.k M)(a b:List Int)(K i:Nat)(hi:i<a.length)(ha:a.length≤1048576)(s:List Int)(hs:s.length≤i)(x:GX):
  ∃y,cz (run M) K aT.l0 (FY a b i s x)=some (.normal,FY a b (i+1) (kz s a[i]) y):=by
 have h1:=bf.ak k1 s a[i] (by omega);have h2:=bU.ak k2 s a[i] (by omega);have e5:=cA (i:=i) (by omega);have e9:=aS s;have e10:=aS (la s a[i]);have hfl:=kX (la s a[i]);simp only[ints] at h1 h2;obtain⟨w,v8,v1,v2,r8,r1,n⟩:=x;unfold kz;by_cases c:a[i]∈s
 ·rw[if_pos c];rw[decide_eq_true c] at h1;refine GX.of w r8 r1 ?_
  match w with
  |0=>simp only[FY,G7,G6];generalize aA s=rr at*;simp (maxSteps:=9^9) [aT.l0,hi,h1,e5,e9,ab]
  |w+1=>simp only[FY,G7,G6];generalize aA s=rr at*;simp (maxSteps:=9^9) [aT.l0,hi,h1,e5,e9,ab]
 ·rw[if_neg c];rw[decide_eq_false c] at h1
  match w with
  |0=>
   refine GX.of 1 (aA s) r1 ?_;simp only[FY,G7,G6];generalize aA (la s a[i])=r2 at*;generalize aA s=rr at*;simp (maxSteps:=9^9) [aT.l0,hi,h1,h2,e5,e9,e10,hfl,ab]
  |w+1=>
   refine GX.of 1 r8 r1 ?_;simp only[FY,G7,G6];generalize aA (la s a[i])=r2 at*;generalize aA s=rr at*;simp (maxSteps:=9^9) [aT.l0,hi,h1,h2,e5,e9,e10,hfl,ab]
theorem aT.KY(k1:bf.k M)(k2:bU.k M)(b:List Int)(K i:Nat)(hi:i<b.length)(hb:b.length≤1048576)(s:List Int)(hs:s.length≤1048576+i)(x:GX):
  ∃y,cz (run M) K aT.l1 (wh b i s x)=some (.normal,wh b (i+1) (kz s b[i]) y):=by
 have h1:=bf.ak k1 s b[i] (by omega);have h2:=bU.ak k2 s b[i] (by omega);have e5:=cA (i:=i) (by omega);have e9:=aS s;have e10:=aS (la s b[i]);have hfl:=kX (la s b[i]);simp only[ints] at h1 h2;obtain⟨w,v8,v1,v2,r8,r1,n⟩:=x;unfold kz;by_cases c:b[i]∈s
 ·rw[if_pos c];rw[decide_eq_true c] at h1;refine GX.of w r8 r1 ?_
  match w with
  |0=>simp only[wh,gO,gR];generalize aA s=rr at*;simp (maxSteps:=9^9) [aT.l1,hi,h1,e5,e9,ab]
  |1=>simp only[wh,gO,gR];generalize aA s=rr at*;simp (maxSteps:=9^9) [aT.l1,hi,h1,e5,e9,ab]
  |2=>simp only[wh,gO,gR];generalize aA s=rr at*;simp (maxSteps:=9^9) [aT.l1,hi,h1,e5,e9,ab]
  |w+3=>simp only[wh,gO,gR];generalize aA s=rr at*;simp (maxSteps:=9^9) [aT.l1,hi,h1,e5,e9,ab]
 ·rw[if_neg c];rw[decide_eq_false c] at h1
  match w with
  |0=>
   refine GX.of 2 (aA s) r1 ?_;simp only[wh,gO,gR];generalize aA (la s b[i])=r2 at*;generalize aA s=rr at*;simp (maxSteps:=9^9) [aT.l1,hi,h1,h2,e5,e9,e10,hfl,ab]
  |1=>
   refine GX.of 3 r8 (aA s) ?_;simp only[wh,gO,gR];generalize aA (la s b[i])=r2 at*;generalize aA s=rr at*;simp (maxSteps:=9^9) [aT.l1,hi,h1,h2,e5,e9,e10,hfl,ab]
  |2=>
   refine GX.of 2 r8 r1 ?_;simp only[wh,gO,gR];generalize aA (la s b[i])=r2 at*;generalize aA s=rr at*;simp (maxSteps:=9^9) [aT.l1,hi,h1,h2,e5,e9,e10,hfl,ab]
  |w+3=>
   refine GX.of 3 r8 r1 ?_;simp only[wh,gO,gR];generalize aA (la s b[i])=r2 at*;generalize aA s=rr at*;simp (maxSteps:=9^9) [aT.l1,hi,h1,h2,e5,e9,e10,hfl,ab]
theorem aT.ak(h:aT.k M)(a b:List Int)(ha:a.length≤1048576)(hb:b.length≤1048576):run M 43 [.c (ints a),.c (ints b)] []=some (.c (.sl true 1 (aA (aQ a b))),[]):=by
 obtain⟨h0,k1,k2⟩:=h;refine au (b:=aT.m) h0 ⟨a.length+b.length+1, ?_⟩;obtain⟨g,hr⟩:=jB (f:=cz (run M) (a.length+b.length+1) aT.l0) a kz (fun i s=>s.length≤i) (FY a b) 0 (Lv a b)
  (fun i h s hs=>by have:=xu s a[i];omega)
  (fun i hi s x hs=>aT.KZ k1 k2 a b _ i hi ha s hs x)
  (fun s x hs=>by
   obtain⟨w,v8,v1,v2,r8,r1,n⟩:=x;refine GX.of w r8 r1 ?_
   match w with
   |0=>simp only[FY,Lv,G7,G6];simp (maxSteps:=9^9) [aT.l0]
   |w+1=>simp only[FY,Lv,G7,G6];simp (maxSteps:=9^9) [aT.l0]) [] (by simp)
 have hla:=ss a [];obtain⟨g',hr'⟩:=jB (f:=cz (run M) (a.length+b.length+1) aT.l1) b kz (fun i s=>s.length≤1048576+i) (wh b) 2 (C_ b)
  (fun i h s hs=>by have:=xu s b[i];omega)
  (fun i hi s x hs=>aT.KY k1 k2 b _ i hi hb s hs x)
  (fun s x hs=>by
   obtain⟨w,v8,v1,v2,r8,r1,n⟩:=x;refine GX.of w r8 r1 ?_
   match w with
   |0=>simp only[wh,C_,gO,gR];simp (maxSteps:=9^9) [aT.l1]
   |1=>simp only[wh,C_,gO,gR];simp (maxSteps:=9^9) [aT.l1]
   |2=>simp only[wh,C_,gO,gR];simp (maxSteps:=9^9) [aT.l1]
   |w+3=>simp only[wh,C_,gO,gR];simp (maxSteps:=9^9) [aT.l1]) (a.foldl kz []) (by simp at hla ⊢;omega)
 have hr2:=fun x=>gz (hr x) (show a.length+1≤a.length+b.length+1 by omega)
 have hr3:=fun x=>gz (hr' x) (show b.length+1≤a.length+b.length+1 by omega)
 have hj:b.foldl kz (a.foldl kz [])=aQ a b:=by rw[aQ,List.foldl_append]
 rw[hj] at hr3;have e9:=aS (aQ a b);generalize aQ a b=j at*;generalize a.foldl kz []=s at*;have hr4:∀y:GX,∃z:GX,fx (cz (run M) (a.length+b.length+1) aT.l1) (a.length+b.length+1) (wh b 0 s y)=some (.exit 2,C_ b j z):=fun y=>⟨_,hr3 y⟩
 have hq:=hr2 ⟨0,2000016,0,0,[],[],2000064⟩;generalize g ⟨0,2000016,0,0,[],[],2000064⟩=y at hq;clear hr hr2 hr' hr3;obtain⟨w,v8,v1,v2,r8,r1,n⟩:=y
 match w with
 |0=>
  obtain⟨⟨w',u8,u1,u2,q8,q1,m⟩,hz⟩:=hr4 ⟨0,v8,v1,v2,r8,r1,n+16⟩;simp[FY,Lv,G7,G6,aA] at hq
  match w' with
  |0=>simp[wh,C_,gO,gR,aA] at hz;simp only[aA] at e9 ⊢;simp (maxSteps:=9^9) [ba,aT.m,aT.b,aa,hq,hz,e9,ab]
  |1=>simp[wh,C_,gO,gR,aA] at hz;simp only[aA] at e9 ⊢;simp (maxSteps:=9^9) [ba,aT.m,aT.b,aa,hq,hz,e9,ab]
  |2=>simp[wh,C_,gO,gR,aA] at hz;simp only[aA] at e9 ⊢;simp (maxSteps:=9^9) [ba,aT.m,aT.b,aa,hq,hz,e9,ab]
  |w'+3=>simp[wh,C_,gO,gR,aA] at hz;simp only[aA] at e9 ⊢;simp (maxSteps:=9^9) [ba,aT.m,aT.b,aa,hq,hz,e9,ab]
 |w+1=>
  obtain⟨⟨w',u8,u1,u2,q8,q1,m⟩,hz⟩:=hr4 ⟨1,v8,v1,v2,r8,r1,n+16⟩;simp[FY,Lv,G7,G6,aA] at hq
  match w' with
  |0=>simp[wh,C_,gO,gR,aA] at hz;simp only[aA] at e9 ⊢;simp (maxSteps:=9^9) [ba,aT.m,aT.b,aa,hq,hz,e9,ab]
  |1=>simp[wh,C_,gO,gR,aA] at hz;simp only[aA] at e9 ⊢;simp (maxSteps:=9^9) [ba,aT.m,aT.b,aa,hq,hz,e9,ab]
  |2=>simp[wh,C_,gO,gR,aA] at hz;simp only[aA] at e9 ⊢;simp (maxSteps:=9^9) [ba,aT.m,aT.b,aa,hq,hz,e9,ab]
  |w'+3=>simp[wh,C_,gO,gR,aA] at hz;simp only[aA] at e9 ⊢;simp (maxSteps:=9^9) [ba,aT.m,aT.b,aa,hq,hz,e9,ab]
theorem Aq(h:M 135=some (.ext vg))(zs:List Int)(hz:zs.length≤4294967296):run M 135 [.c (.row 0 0 0 zs.length)] [(0,⟨0,1,true,false,aA zs⟩)]=some (.lM [],[(0,⟨0,1,true,false,aA (lQ zs)⟩)]):=by
 refine zm h ?_;simp[vg,qc,sK,hz]
theorem vi(h:M 136=some (.ext oF))(zs:List Int)(hz:zs.length≤4294967296):
  run M 136 [.c (.row 0 0 0 zs.length)] [(0,⟨0,1,true,false,aA zs⟩)]=some (.c (.row 0 0 0 (Lib.compact zs).length),[(0,⟨0,1,true,false,aA (Lib.compact zs++List.replicate (zs.length-(Lib.compact zs).length) 0)⟩)]):=by
 refine zm h ?_;simp[oF,qc,sK,hz]
theorem fv.ak(h:fv.k M)(a b:List Int)(ha:a.length≤1048576)(hb:b.length≤1048576):run M 44 [.c (ints a),.c (ints b)] []=some (.c (.sl true 1 (aA (aQ a b))),[]):=by
 obtain⟨h0,k1,k2,k3⟩:=h;have h1:=eR.ak k1 a ha;have hab:(a++b).length≤4294967296:=by simp;omega
 have h2:=Aq k2 (a++b) hab;have hsl:(lQ (a++b)).length=(a++b).length:=by simp[lQ]
 have h3:=vi k3 (lQ (a++b)) (by rw[hsl];exact hab);rw[sU] at h3;have hjl:(aQ a b).length≤(a++b).length:=by
  have:=ss (a++b) [];simp only[aQ];simpa using this
 refine au (b:=fv.m) h0 ⟨0, ?_⟩;rw[hsl] at h3;have e1:aA (a++b)=aA a++aA b:=by simp[aA]
 have e2:aA (aQ a b++List.replicate ((a++b).length-(aQ a b).length) 0)=aA (aQ a b)++aA (List.replicate ((a++b).length-(aQ a b).length) 0):=by simp[aA]
 rw[e1] at h2;rw[e2] at h3;simp only[aD] at h2 h3 hab hjl;have l1:=aS a;have l2:=aS b;have l3:=aS (aQ a b);have l4:(aA (List.replicate (a.length+b.length-(aQ a b).length) 0)).length=a.length+b.length-(aQ a b).length:=by simp[aA]
 have s1:=kX (lQ (a++b));have s2:=kX (aQ a b);have l5:=aS (lQ (a++b));rw[hsl] at l5;simp only[aD] at l5;simp only[ints] at h1 ⊢;generalize aA (List.replicate (a.length+b.length-(aQ a b).length) 0)=rz at*;generalize aA (lQ (a++b))=rs at*;generalize aQ a b=j at*;generalize aA j=rj at*;have e5:a.length≤4294967296:=by omega
 have e6:j.length≤rj.length+rz.length:=by omega
 generalize aA a=ra at*;generalize aA b=rb at*;simp (maxSteps:=9^9) [ba,fv.m,fv.b,aa,h1,h2,h3,hab,l1,l2,l3,l4,l5,ab]
theorem gv.ak(h:gv.k M)(l:List mJ)(hl:l.length≤1048576):run M 239 [.c (jf l)] []=some (.c (.sl true 3 (l.map aO)),[]):=by
 refine au (b:=gv.m) h ⟨0, ?_⟩;have e:(l.map aO).length=l.length:=by simp
 have h1:l.length≤4294967296:=by omega
 simp only[jf];generalize l.map aO=r at*;simp (maxSteps:=9^9) [ba,gv.m,gv.b,aa,e,h1,ab]
theorem gT.ak(h:gT.k M)(l:List mJ)(hl:l.length≤1048576):run M 241 [.c (jf l)] []=some (.c (.sl true 3 (l.map aO)),[]):=by
 refine au (b:=gT.m) h ⟨0, ?_⟩;have e:(l.map aO).length=l.length:=by simp
 have h1:l.length≤4294967296:=by omega
 simp only[jf];generalize l.map aO=r at*;simp (maxSteps:=9^9) [ba,gT.m,gT.b,aa,e,h1,ab]
theorem ei.ak(h:ei.k M)(m:bj)(hl:m.flags.length≤1048576):run M 233 [.a (ah m)] []=some (.a (iC m),[]):=by
 have h1:=gv.ak h.2 m.flags hl;refine au (b:=ei.m) h.1 ⟨0, ?_⟩;have e:(m.flags.map aO).length=m.flags.length:=by simp
 simp only[ah,iC,jf] at*;generalize m.flags.map aO=r at*;simp (maxSteps:=9^9) [ba,ei.m,ei.b,aa,setAt,h1,e,ab]
theorem fD.ak(h:fD.k M)(m:bj)(hl:m.flags.length≤1048576):run M 238 [.a (ah m)] []=some (.a (iC m),[]):=by
 have h1:=gT.ak h.2 m.flags hl;refine au (b:=fD.m) h.1 ⟨0, ?_⟩;have e:(m.flags.map aO).length=m.flags.length:=by simp
 simp only[ah,iC,jf] at*;generalize m.flags.map aO=r at*;simp (maxSteps:=9^9) [ba,fD.m,fD.b,aa,setAt,h1,e,ab]
theorem kq{β γ:Type}(n:Nat){f:St→Option (Out×St)}(S:Nat→β→St)(e:Nat)(E:γ→St)
  (h1:∀i,i<n→∀x,∃y,f (S i x)=some (.normal,S (i+1) y)) (h3:∀x,∃y,f (S n x)=some (.exit e,E y)):
  ∃g:β→γ,∀x,fx f (n+1) (S 0 x)=some (.exit e,E (g x)):=by
 refine iN (f:=f) S (fun i=>i≤n) (fun i=>n-i) (fun _=>()) (fun _ m=>(.exit e,E m)) ?_ (n+1) 0 (Nat.zero_le _) (by omega);intro i x hi;by_cases hlt:i<n
 ·left;obtain⟨y,hy⟩:=h1 i hlt x;exact⟨i+1,y,hy,hlt,by omega,rfl⟩
 ·have:i=n:=by omega
  subst this;right;obtain⟨y,hy⟩:=h3 x;exact⟨y,by simp[hy],by simp⟩
def Ls(b:bq)(i:Nat)(x:kS×Nat):List (Nat×Ob):=[(1,⟨x.1.a,7,true,true,[af b]⟩),(2,⟨x.1.b,7,true,true,[sZ]⟩),(3,⟨x.2,7,true,true,[[I b.gid,S b.name,I b.time,I b.eJ,I b.next,.row 7 x.1.c 0 i,ints b.gone]]⟩),(7,⟨x.1.c,4,true,false,(b.ae.take i).map ah⟩)]
def Md(b:bq)(i:Nat)(x:kS×Nat):St:={t:=[(1,.c (.ptr 1 x.1.a 0 0)),(2,.c (.ptr 2 x.1.b 0 0)),(3,.c (.ptr 3 x.2 0 0)),(10,.c (ae b.ae)),(11,.c (I b.ae.length)),(12,.c (I i))],o:=Ls b i x,n:=x.1.d}
def MU(b:bq)(x:kS×Nat):St:={t:=[(1,.c (.ptr 1 x.1.a 0 0)),(2,.c (.ptr 2 x.1.b 0 0)),(3,.c (.ptr 3 x.2 0 0)),(10,.c (ae b.ae)),(11,.c (I b.ae.length)),(12,.c (I b.ae.length)),(13,.c (.bool false))],o:=Ls b b.ae.length x,n:=x.1.d}
theorem hH{α:Type}(l:List α)(i:Nat)(h:i<l.length):l.take (i+1)=l.take i++[l[i]]:=List.take_succ_eq_append_getElem h
theorem cm.ak(h:cm.k M)(b:bq)(hb:iw b):run M 155 [.a (af b)] []=some (.a (b7 b),[]):=by
 obtain⟨h0,k1,k2⟩:=h;have hm:=hb.m;have h1:=eR.ak k1 b.gone hb.g;refine au (b:=cm.m) h0 ⟨b.ae.length+1, ?_⟩;obtain⟨g,hr⟩:=kq (f:=cz (run M) (b.ae.length+1) cm.l0) b.ae.length (Md b) 0 (MU b)
  (fun i hi x=>by
   obtain⟨⟨v1,v2,v3,n⟩,v4⟩:=x;have h2:=ei.ak k2 b.ae[i] (hb.f _ (ax hi));have e5:=cA (i:=i) (by omega);have e6:i+1≤4294967296:=by omega
   have e7:((b.ae.take i).map ah).length=i:=by simp;omega
   have e8:((b.ae.take (i+1)).map ah)=(b.ae.take i).map ah++[ah b.ae[i]]:=by rw[hH _ _ hi,cg];rfl
   simp only[Md,Ls,e8,aE,kS.ex];generalize (b.ae.take i).map ah=rr at*;simp only[ah,iC] at h2;simp (maxSteps:=9^9) [cm.l0,aa,setAt,hi,h2,e5,e6,e7,ah,ab];exact⟨_,_,_,_,_,⟨rfl,rfl,rfl⟩,⟨rfl,rfl,rfl,rfl⟩,rfl⟩)
  (fun x=>by
   obtain⟨⟨v1,v2,v3,n⟩,v4⟩:=x;simp only[aE,kS.ex];simp (maxSteps:=9^9) [cm.l0,aa,Md,MU,Ls];exact⟨_,_,_,_,_,⟨rfl,rfl,rfl⟩,⟨rfl,rfl,rfl,rfl⟩,rfl⟩)
 have e7:(b.ae.map ah).length=b.ae.length:=by simp
 have e8:=aS b.gone;have e9:b.ae.take b.ae.length=b.ae:=by simp
 simp only[ints] at h1;simp only[Md,MU,Ls,e9,List.take_zero,bS,ints] at hr
 replace hr:=fun a b c d n=>hr ⟨⟨a,b,c,d⟩,n⟩
 simp only[af,b7,ae,ints] at hr ⊢;generalize b.ae.map ah=rm at*;generalize aA b.gone=rg at*;simp at hr;simp (maxSteps:=9^9) [ba,cm.m,cm.b,aa,setAt,hr,h1,e7,e8,ab]
def K5(b:bq)(i:Nat)(x:kS×Nat):List (Nat×Ob):=[(1,⟨x.1.a,7,true,true,[af b]⟩),(2,⟨x.1.b,7,true,true,[sZ]⟩),(3,⟨x.2,7,true,true,[[I b.gid,S b.name,I b.time,I b.eJ,I b.next,.row 6 x.1.c 0 i,ints b.gone]]⟩),(6,⟨x.1.c,4,true,false,(b.ae.take i).map ah⟩)]
def LY(b:bq)(i:Nat)(x:kS×Nat):St:={t:=[(1,.c (.ptr 1 x.1.a 0 0)),(2,.c (.ptr 2 x.1.b 0 0)),(3,.c (.ptr 3 x.2 0 0)),(4,.c (I i))],o:=K5 b i x,n:=x.1.d}
def MF(b:bq)(x:kS×Nat):St:={t:=[(1,.c (.ptr 1 x.1.a 0 0)),(2,.c (.ptr 2 x.1.b 0 0)),(3,.c (.ptr 3 x.2 0 0)),(4,.c (I b.ae.length)),(12,.c (.bool false))],o:=K5 b b.ae.length x,n:=x.1.d}
theorem bX.ak(h:bX.k M)(b:bq)(hb:iw b):run M 180 [.a (af b)] []=some (.a (b7 b),[]):=by
 obtain⟨h0,k2⟩:=h;have hm:=hb.m;have hg:=hb.g;refine au (b:=bX.m) h0 ⟨b.ae.length+1, ?_⟩;obtain⟨g,hr⟩:=kq (f:=cz (run M) (b.ae.length+1) bX.l0) b.ae.length (LY b) 0 (MF b)
  (fun i hi x=>by
   obtain⟨⟨v1,v2,v3,n⟩,v4⟩:=x;have h2:=fD.ak k2 b.ae[i] (hb.f _ (ax hi));have e5:=cA (i:=i) (by omega);have e6:i+1≤4294967296:=by omega
   have e7:((b.ae.take i).map ah).length=i:=by simp;omega
   have e8:((b.ae.take (i+1)).map ah)=(b.ae.take i).map ah++[ah b.ae[i]]:=by rw[hH _ _ hi,cg];rfl
   simp only[LY,K5,e8,aE,kS.ex];generalize (b.ae.take i).map ah=rr at*;simp only[ah,iC] at h2;simp (maxSteps:=9^9) [bX.l0,aa,setAt,hi,h2,e5,e6,e7,ah,ab];exact⟨_,_,_,_,_,⟨rfl,rfl,rfl⟩,⟨rfl,rfl,rfl,rfl⟩,rfl⟩)
  (fun x=>by
   obtain⟨⟨v1,v2,v3,n⟩,v4⟩:=x;simp only[aE,kS.ex];simp (maxSteps:=9^9) [bX.l0,aa,LY,MF,K5];exact⟨_,_,_,_,_,⟨rfl,rfl,rfl⟩,⟨rfl,rfl,rfl,rfl⟩,rfl⟩)
 have e7:(b.ae.map ah).length=b.ae.length:=by simp
 have e8:=aS b.gone;have e9:b.ae.take b.ae.length=b.ae:=by simp
 have e6:b.gone.length≤4294967296:=by omega
 simp only[LY,MF,K5,e9,List.take_zero,bS,ints] at hr
 replace hr:=fun a b c d n=>hr ⟨⟨a,b,c,d⟩,n⟩
 simp only[af,b7,ae,ints] at hr ⊢;generalize b.ae.map ah=rm at*;generalize aA b.gone=rg at*;simp at hr;simp (maxSteps:=9^9) [ba,bX.m,bX.b,aa,setAt,hr,e6,e7,e8,ab]
def nQ(n:Int)(i:Nat):Int:=n.fdiv ((2^i:Nat):Int)%2
theorem Dp(x:Int):vY .i64 x 1=x%2:=by
 unfold vY;have h1:(BitVec.ofInt IntKind.i64.bits x&&&BitVec.ofInt IntKind.i64.bits 1).toNat=(x%2).toNat:=by
  change (BitVec.ofInt 64 x&&&BitVec.ofInt 64 1).toNat=(x%2).toNat;simp only[BitVec.toNat_and,BitVec.toNat_ofInt];have:((1:Int)%((2^64:Nat):Int)).toNat=1:=by decide
  rw[this,Nat.and_one_is_mod];have h2:(x%((2^64:Nat):Int)).toNat%2=(x%((2^64:Nat):Int)%2).toNat:=by
   have:0≤x%((2^64:Nat):Int):=Int.emod_nonneg _ (by decide);omega
  rw[h2];congr 1;have:((2^64:Nat):Int)=18446744073709551616:=by decide
  rw[this];omega
 rw[h1,wrap_i64 (by omega) (by omega)];omega
def jR(n t w:Int):List mJ:=[⟨nQ n 0,t,w⟩,⟨nQ n 1,t,w⟩,⟨nQ n 2,t,w⟩]
theorem fZ.ak(h:fZ.k M)(n t w:Int):run M 157 [.c (I n),.a [I t,I w]] []=some (.c (.sl true 3 ((jR n t w).map aO)),[]):=by
 refine au (b:=fZ.m) h ⟨4, ?_⟩;have w2:IntKind.i64.wrap 2=2:=wrap_i64 (by omega) (by omega);have w3:IntKind.i64.wrap 3=3:=wrap_i64 (by omega) (by omega);simp (maxSteps:=9^9) [ba,fZ.m,fZ.b,aa,setAt,fx,fZ.l0,wrap_one,w2,w3,Dp,jR,aO,nQ,IntKind.bits]
theorem z8(x:Int):(x.tmod 2=0)↔x%2=0:=
 ⟨fun h=>Int.emod_eq_zero_of_dvd (Int.dvd_of_tmod_eq_zero h),fun h=>Int.tmod_eq_zero_of_dvd (Int.dvd_of_emod_eq_zero h)⟩
theorem fW.ak(h:fW.k M)(n t w:Int):run M 181 [.c (I n),.a [I t,I w]] []=some (.c (.sl true 3 ((jR n t w).map aO)),[]):=by
 refine au (b:=fW.m) h ⟨4, ?_⟩;have w2:IntKind.i64.wrap 2=2:=wrap_i64 (by omega) (by omega);have w3:IntKind.i64.wrap 3=3:=wrap_i64 (by omega) (by omega);have u0:IntKind.u64.wrap 0=0:=by decide
 have u1:IntKind.u64.wrap 1=1:=by decide
 have u2:IntKind.u64.wrap 2=2:=by decide
 have key:∀i:Nat,nQ n i=if(n.fdiv ((2^i:Nat):Int)).tmod 2=0 then 0 else 1:=by
  intro i;unfold nQ;by_cases c:(n.fdiv ((2^i:Nat):Int)).tmod 2=0
  ·rw[if_pos c];exact(z8 _).1 c
  ·rw[if_neg c];rw[z8] at c;omega
 have k0:=key 0;have k1:=key 1;have k2:=key 2;by_cases c0:(n.fdiv ((2^0:Nat):Int)).tmod 2=0<;>by_cases c1:(n.fdiv ((2^1:Nat):Int)).tmod 2=0<;>by_cases c2:(n.fdiv ((2^2:Nat):Int)).tmod 2=0<;>
  simp only[c0,c1,c2,if_true,if_false] at k0 k1 k2<;>simp at c0 c1 c2<;>
  simp (maxSteps:=9^9) [ba,fW.m,fW.b,aa,setAt,fx,fW.l0,wrap_one,w2,w3,u0,u1,u2,jR,aO,k0,k1,k2,c0,c1,c2,IntKind.bits]
def rC(l:List bj)(i:Nat):Int:=match l[i]? with|some m=>m.uid|none=>0
def jm(a b:bq)(g:Int):Bool:=match fX a.ae g with
 |none=>false
 |some i=>match fX b.ae g with
  |some k=>decide (rC a.ae i=rC b.ae k)
  |none=>decide (b.next≤rC a.ae i)
theorem dC.ak(h:dC.k M)(a b:bq)(g:Int)(ha:a.ae.length≤1048576)(hb:b.ae.length≤1048576):run M 22 [.a (af a),.a (af b),.c (I g)] []=some (.c (.bool (jm a b g)),[]):=by
 have h1:=bI.ak h.2 a g ha;have h2:=bI.ak h.2 b g hb;refine au (b:=dC.m) h.1 ⟨0, ?_⟩;simp only[af] at h1 h2;unfold jm;cases hi:fX a.ae g with
 |none=>
  simp[hi,dA] at h1;simp[ba,dC.m,dC.b,aa,h1]
 |some i=>
  have li:=uV _ _ _ _ _ hi;simp[hi,dA] at h1;have di:¬(i:Int)<0:=by omega
  have ui:rC a.ae i=a.ae[i].uid:=by simp[rC,li]
  cases hk:fX b.ae g with
  |none=>
   simp[hk,dA] at h2;simp[ba,dC.m,dC.b,aa,h1,h2,di,li,ui,ah]
  |some k=>
   have lk:=uV _ _ _ _ _ hk;have uk:rC b.ae k=b.ae[k].uid:=by simp[rC,lk]
   simp[hk,dA] at h2;simp[ba,dC.m,dC.b,aa,h1,h2,di,li,ui,lk,uk,ah]
theorem dE.ak(h:dE.k M)(a b:bq)(g:Int)(ha:a.ae.length≤1048576)(hb:b.ae.length≤1048576):run M 23 [.a (af a),.a (af b),.c (I g)] []=some (.c (.bool (jm a b g)),[]):=by
 have h1:=cy.ak h.2 a g ha;have h2:=cy.ak h.2 b g hb;refine au (b:=dE.m) h.1 ⟨0, ?_⟩;simp only[af] at h1 h2;unfold jm;cases hi:fX a.ae g with
 |none=>
  simp[hi,dA] at h1;simp[ba,dE.m,dE.b,aa,h1,h2]
 |some i=>
  have li:=uV _ _ _ _ _ hi;simp[hi,dA] at h1;have di:¬(i:Int)<0:=by omega
  have ui:rC a.ae i=a.ae[i].uid:=by simp[rC,li]
  cases hk:fX b.ae g with
  |none=>
   simp[hk,dA] at h2;simp[ba,dE.m,dE.b,aa,h1,h2,di,li,ui,ah]
  |some k=>
   have lk:=uV _ _ _ _ _ hk;have uk:rC b.ae k=b.ae[k].uid:=by simp[rC,lk]
   simp[hk,dA] at h2;by_cases c:a.ae[i].uid=b.ae[k].uid
   ·simp[ba,dE.m,dE.b,aa,h1,h2,di,li,ui,lk,uk,ah,c]
   ·have c':¬b.ae[k].uid=a.ae[i].uid:=fun q=>c q.symm
    simp[ba,dE.m,dE.b,aa,h1,h2,di,li,ui,lk,uk,ah,c,c']
end Mx
namespace Mx
open Go
def iB{α:Type}(k:α→Int)(acc:List α)(m:α):List α:=acc.filter (fun x=>decide (k x≤k m))++[m]++acc.filter (fun x=>decide (k m<k x))
def fc{α:Type}(k:α→Int)(l:List α):List α:=l.foldl (iB k) []
abbrev n9{α:Type}(k:α→Int)(l:List α):Prop:=l.Pairwise fun x y=>k x≤k y
theorem zH{α:Type}{k:α→Int}{acc:List α}{m:α}(h:n9 k acc):n9 k (iB k acc m):=by
 simp only[iB,n9,List.pairwise_append,List.pairwise_singleton,fO,decide_eq_true_eq,iV,iG];refine⟨⟨h.filter _,trivial, ?_⟩,h.filter _, ?_⟩
 ·rintro a ⟨_,ha⟩ b rfl;exact ha
 ·rintro a (⟨_,ha⟩|rfl) b ⟨_,hb⟩<;>omega
theorem xn{α:Type}{k:α→Int}(acc:List α)(m:α):(iB k acc m).Perm (m::acc):=by
 have:∀l:List α,(l.filter (fun x=>decide (k x≤k m))++l.filter (fun x=>decide (k m<k x))).Perm l:=by
  intro l;have h:=List.filter_append_perm (fun x=>decide (k x≤k m)) l;have e:(fun x=> !decide (k x≤k m))=fun x=>decide (k m<k x):=by
   funext x;rw[Bool.eq_iff_iff];simp
  rwa [e] at h
 refine List.Perm.trans ?_ ((this acc).cons m);unfold iB;rw[b4];exact List.perm_middle
theorem vC{α:Type}{k:α→Int}:∀(l acc:List α),(l.foldl (iB k) acc).Perm (l++acc)
 |[],acc=>List.Perm.refl _
 |x::l,acc=>by
  refine(vC l (iB k acc x)).trans ?_;refine((xn acc x).append_left l).trans ?_;exact List.perm_middle
theorem sY{α:Type}{k:α→Int}:∀(l acc:List α),n9 k acc→n9 k (l.foldl (iB k) acc)
 |[],acc,h=>h
 |x::l,acc,h=>sY l _ (zH h)
theorem oC{α:Type}{k:α→Int}(l:List α):(fc k l).Perm l:=by unfold fc;simpa using vC (k:=k) l []
theorem oy{α:Type}{k:α→Int}(l:List α):n9 k (fc k l):=sY l [] List.Pairwise.nil
theorem qC{α:Type}{k:α→Int}{l:List α}{z:α}:z∈fc k l↔z∈l:=(oC l).mem_iff
theorem iK{α:Type}{k:α→Int}(l:List α):(fc k l).length=l.length:=(oC l).length_eq
abbrev Bp{α:Type}(k:α→Int)(l:List α):Prop:=l.Pairwise fun x y=>k x<k y
theorem uW{α:Type}{k:α→Int}:∀{a b:List α},Bp k a→Bp k b→(∀x,x∈a↔x∈b)→a=b
 |[],[],_,_,_=>rfl
 |[],y::b,_,_,h=>absurd ((h y).2 (bl ..)) (by simp)
 |x::a,[],_,_,h=>absurd ((h x).1 (bl ..)) (by simp)
 |x::a,y::b,ha,hb,h=>by
  obtain⟨ha1,ha2⟩:=List.pairwise_cons.1 ha;obtain⟨hb1,hb2⟩:=List.pairwise_cons.1 hb;have e:x=y:=by
   rcases List.mem_cons.1 ((h x).1 (bl ..)) with q|q
   ·exact q
   ·rcases List.mem_cons.1 ((h y).2 (bl ..)) with q'|q'
    ·exact q'.symm
    ·have:=ha1 y q';have:=hb1 x q;omega
  subst e;congr 1;refine uW ha2 hb2 fun z=>⟨fun hz=> ?_,fun hz=> ?_⟩
  ·rcases List.mem_cons.1 ((h z).1 (bo _ hz)) with q|q
   ·have:=ha1 z hz;rw[q] at this;omega
   ·exact q
  ·rcases List.mem_cons.1 ((h z).2 (bo _ hz)) with q|q
   ·have:=hb1 z hz;rw[q] at this;omega
   ·exact q
theorem pY{α:Type}{k:α→Int}:∀{l:List α},n9 k l→(l.map k).Nodup→Bp k l
 |[],_,_=>List.Pairwise.nil
 |x::l,h,hn=>by
  obtain⟨h1,h2⟩:=List.pairwise_cons.1 h;rw[bu,List.nodup_cons] at hn;refine List.pairwise_cons.2 ⟨fun y hy=> ?_,pY h2 hn.2⟩;have:=h1 y hy;have:k x≠k y:=fun e=>hn.1 (by rw[e];exact iD hy)
  omega
def lh(t w u x:Int):Bool:=decide (u<t)||(decide (t=u)&&decide (x<w))
def pO(a b:mJ):mJ:=if lh b.time b.eJ a.time a.eJ=true∨lh a.time a.eJ b.time b.eJ=false∧a.val<b.val then b else a
def fg(a b:List mJ):List mJ:=List.zipWith pO a b
def JV(a b:List UInt8):List UInt8:=if jH a b=true then b else a
def iA(a b:bj):bj:=if a.gid=b.gid then⟨a.gid,Max.max a.uid b.uid,fg a.flags b.flags,JV a.text b.text⟩ else a
def jV(l:List bj)(g:Int):Option bj:=l.find? fun m=>decide (m.gid=g)
theorem mS{l:List bj}{g:Int}{m:bj}(h:jV l g=some m):m∈l∧m.gid=g:=⟨List.mem_of_find?_eq_some h,by simpa using List.find?_some h⟩
theorem oD{l:List bj}{g:Int}:jV l g=none↔∀m∈l,m.gid≠g:=by
 unfold jV;rw[List.find?_eq_none];simp
theorem w5{l:List bj}(h:(l.map (·.gid)).Nodup){m:bj}(hm:m∈l):jV l m.gid=some m:=by
 induction l with
 |nil=>simp at hm
 |cons x l ih=>
  rw[bu,List.nodup_cons] at h;unfold jV at ih ⊢;rw[List.find?_cons];rcases List.mem_cons.1 hm with rfl|hm
  ·simp
  ·have:x.gid≠m.gid:=fun e=>h.1 (by rw[e];exact iD hm)
   simp only[this,decide_false];exact ih h.2 hm
def fk(l:List bj):List Int:=l.map (·.gid)
def nk(a b:List bj)(g:Int):bj:=match jV a g,jV b g with
 |some x,some y=>iA x y
 |some x,none=>x
 |none,some y=>y
 |none,none=>⟨0,0,[],[]⟩
def je(a b:bq)(g:Int):Bool:=(holds a g&& !jm a b g)||(holds b g&& !jm b a g)
def mi(a b:bq)(s:List bj×Int)(g:Int):List bj×Int:=
 if g∈a.gone∨g∈b.gone then s else
 if je a b g=true then(iB (·.uid) s.1 {nk a.ae b.ae g with uid:=s.2},s.2+1) else(iB (·.uid) s.1 (nk a.ae b.ae g),s.2)
def jk(a b:bq):List bj×Int:=(aQ (fk a.ae) (fk b.ae)).foldl (mi a b) ([],Max.max a.next b.next)
def allM(a b:List bj):List bj:=a.map (fun m=>match jV b m.gid with|some y=>iA m y|none=>m)++b.filter (fun m=>(jV a m.gid).isNone)
def dZ(need:Int→Bool):Int→List bj→List bj×Int
 |n,[]=>([],n)
 |n,m::l=>if need m.gid=true then({m with uid:=n}::(dZ need (n+1) l).1,(dZ need (n+1) l).2) else(m::(dZ need n l).1,(dZ need n l).2)
def oV(a b:bq):List bj×Int:=
 let l:=dZ (je a b) (Max.max a.next b.next) (fc (·.gid) ((allM a.ae b.ae).filter fun m=> !decide (m.gid∈aQ a.gone b.gone)))
 (fc (·.uid) l.1,l.2)
theorem qO(a b:bj):(iA a b).gid=a.gid:=by unfold iA;split<;>rfl
theorem qg{a b:List bj}{g:Int}(h:g∈fk a∨g∈fk b):(nk a b g).gid=g:=by
 unfold nk;cases h1:jV a g with
 |some x=>
  cases h2:jV b g with
  |some y=>simp only[qO];exact(mS h1).2
  |none=>exact(mS h1).2
 |none=>
  cases h2:jV b g with
  |some y=>exact(mS h2).2
  |none=>
   exfalso;rw[oD] at h1 h2;rcases h with h|h
   ·obtain⟨m,hm,e⟩:=List.mem_map.1 h;exact h1 m hm e
   ·obtain⟨m,hm,e⟩:=List.mem_map.1 h;exact h2 m hm e
theorem Gv{a b:List bj}(ha:(fk a).Nodup)(hb:(fk b).Nodup){m:bj}:m∈allM a b↔(m.gid∈fk a∨m.gid∈fk b)∧m=nk a b m.gid:=by
 simp only[allM,iG,ox,fO];constructor
 ·rintro (⟨x,hx,rfl⟩|⟨hm,hn⟩)
  ·have h1:=w5 ha hx;have hg:x.gid∈fk a:=iD hx;cases h2:jV b x.gid with
   |some y=>
    simp only[qO];refine⟨.inl hg, ?_⟩;simp only[nk,h1,h2]
   |none=>
    simp only;refine⟨.inl hg, ?_⟩;simp only[nk,h1,h2]
  ·have h1:=w5 hb hm;simp only[ch] at hn;refine⟨.inr (iD hm), ?_⟩;simp only[nk,h1,hn]
 ·rintro ⟨h,e⟩;cases h1:jV a m.gid with
  |some x=>
   left;obtain⟨k1,k2⟩:=mS h1;refine⟨x,k1, ?_⟩;rw[e,k2];simp only[nk,h1];cases h2:jV b m.gid<;>rfl
  |none=>
   right;cases h2:jV b m.gid with
   |none=>
    exfalso;rw[oD] at h1 h2;rcases h with h|h
    ·obtain⟨m',hm,e⟩:=List.mem_map.1 h;exact h1 m' hm e
    ·obtain⟨m',hm,e⟩:=List.mem_map.1 h;exact h2 m' hm e
   |some y=>
    refine⟨?_,by simp⟩;have:m=y:=by rw[e];simp only[nk,h1,h2]
    rw[this];exact(mS h2).1
theorem CA{a b:List bj}(ha:(fk a).Nodup)(hb:(fk b).Nodup):(fk (allM a b)).Nodup:=by
 have e1:fk (a.map (fun m=>match jV b m.gid with|some y=>iA m y|none=>m))=fk a:=by
  unfold fk;rw[List.map_map];apply List.map_congr_left;intro m _;simp only[Function.comp];split
  ·exact qO _ _
  ·rfl
 unfold allM;rw[fk,cg];change (fk _++fk _).Nodup;rw[e1,List.nodup_append];refine⟨ha, ?_, ?_⟩
 ·exact hb.sublist (List.Sublist.map _ List.filter_sublist)
 ·intro x hx y hy e;subst e;obtain⟨m,hm,rfl⟩:=List.mem_map.1 hy;rw[fO] at hm;simp only[ch,oD] at hm;obtain⟨m',hm',e⟩:=List.mem_map.1 hx;exact hm.2 m' hm' e
theorem Fc{a b:bq}(ha:(fk a.ae).Nodup)(hb:(fk b.ae).Nodup):
  fc (·.gid) ((allM a.ae b.ae).filter fun m=> !decide (m.gid∈aQ a.gone b.gone))=((aQ (fk a.ae) (fk b.ae)).filter fun g=> !decide (g∈aQ a.gone b.gone)).map (nk a.ae b.ae):=by
 refine uW (k:=fun m:bj=>m.gid) ?_ ?_ fun m=> ?_
 ·refine pY (oy _) ?_;have hp:=(oC (k:=fun m:bj=>m.gid) ((allM a.ae b.ae).filter fun m=> !decide (m.gid∈aQ a.gone b.gone))).map (fun m:bj=>m.gid);rw[hp.nodup_iff];exact(CA ha hb).sublist (List.Sublist.map _ List.filter_sublist)
 ·rw[Bp,List.pairwise_map];have h:=(nV (fk a.ae) (fk b.ae)).filter (fun g=> !decide (g∈aQ a.gone b.gone));refine List.Pairwise.imp_of_mem ?_ h;intro x y hx hy hxy;rw[fO,iQ] at hx hy;rw[qg hx.1,qg hy.1];exact hxy
 ·rw[qC,fO,Gv ha hb,ox];constructor
  ·rintro ⟨⟨h1,h2⟩,h3⟩;exact⟨m.gid,List.mem_filter.2 ⟨(iQ _ _ _).2 h1,h3⟩,h2.symm⟩
  ·rintro ⟨g,hg,rfl⟩;rw[fO,iQ] at hg;have:=qg hg.1;rw[this];exact⟨⟨hg.1,rfl⟩,hg.2⟩
theorem vB(a b:bq):∀(gs:List Int) (acc:List bj) (n:Int),(∀g∈gs,g∈fk a.ae∨g∈fk b.ae)→
  gs.foldl (mi a b) (acc,n)=((dZ (je a b) n ((gs.filter fun g=> !decide (g∈aQ a.gone b.gone)).map (nk a.ae b.ae))).1.foldl (iB (·.uid)) acc,(dZ (je a b) n ((gs.filter fun g=> !decide (g∈aQ a.gone b.gone)).map (nk a.ae b.ae))).2)
 |[],acc,n,_=>by simp[dZ]
 |g::gs,acc,n,h=>by
  have ih:=fun acc n=>vB a b gs acc n fun g hg=>h g (bo _ hg)
  have hg:=qg (h g (bl ..));rw[eN,mi,iI];by_cases c:g∈a.gone∨g∈b.gone
  ·have c':g∈aQ a.gone b.gone:=(iQ _ _ _).2 c;rw[if_pos c,ih];simp[c']
  ·have c':¬g∈aQ a.gone b.gone:=fun q=>c ((iQ _ _ _).1 q)
   rw[if_neg c];simp only[c',decide_false,Bool.not_false,if_true,bu,dZ,hg];by_cases c2:je a b g=true
   ·rw[if_pos c2,if_pos c2,ih];rfl
   ·rw[if_neg c2,if_neg c2,ih];rfl
theorem qf{a b:bq}(ha:(fk a.ae).Nodup)(hb:(fk b.ae).Nodup):oV a b=jk a b:=by
 unfold oV jk;rw[Fc ha hb,vB a b _ _ _ fun g hg=>(iQ _ _ _).1 hg];rfl
def gY(a b:bq):bq:=if a.gid=b.gid then
    {gid:=a.gid,name:=if lh b.time b.eJ a.time a.eJ=true∨lh a.time a.eJ b.time b.eJ=false∧jH a.name b.name=true then b.name else a.name,
     time:=if lh b.time b.eJ a.time a.eJ=true∨lh a.time a.eJ b.time b.eJ=false∧jH a.name b.name=true then b.time else a.time,
     eJ:=if lh b.time b.eJ a.time a.eJ=true∨lh a.time a.eJ b.time b.eJ=false∧jH a.name b.name=true then b.eJ else a.eJ,
     next:=(jk a b).2,ae:=(jk a b).1,gone:=aQ a.gone b.gone} else a
end Mx
namespace Mx
open Go
variable {M:Nat→Option Body}
theorem fV.ak(h:fV.k M)(t w u x:Int):run M 275 [.a [I t,I w],.a [I u,I x]] []=some (.c (.bool (lh t w u x)),[]):=by
 refine au (b:=fV.m) h ⟨0, ?_⟩;unfold lh;by_cases c1:u<t
 ·simp (maxSteps:=9^9) [ba,fV.m,fV.b,aa,c1]
 by_cases c2:t=u
 ·subst c2;simp (maxSteps:=9^9) [ba,fV.m,fV.b,aa]
 ·simp (maxSteps:=9^9) [ba,fV.m,fV.b,aa,c1,c2]
theorem hQ.ak(h:hQ.k M)(t w u x:Int):run M 277 [.a [I t,I w],.a [I u,I x]] []=some (.c (.bool (lh t w u x)),[]):=by
 refine au (b:=hQ.m) h ⟨0, ?_⟩;unfold lh;by_cases c2:t=u
 ·subst c2;simp (maxSteps:=9^9) [ba,hQ.m,hQ.b,aa]
 ·simp (maxSteps:=9^9) [ba,hQ.m,hQ.b,aa,c2]
def wU(r:mJ)(v t w:Int):mJ:=if lh t w r.time r.eJ=true∧oM ⟨v,t,w⟩=true then⟨v,t,w⟩ else r
theorem jc.ak(h:jc.k M)(r:mJ)(v t w:Int):run M 240 [.a (aO r),.c (I v),.a [I t,I w]] []=some (.a (aO (wU r v t w)),[]):=by
 obtain⟨h0,k1,k2⟩:=h;have h1:=ja.ak k1 ⟨v,t,w⟩;have h2:=fV.ak k2 t w r.time r.eJ;refine au (b:=jc.m) h0 ⟨0, ?_⟩;unfold wU;simp only[aO] at h1;generalize lh t w r.time r.eJ=a at*;generalize oM ⟨v,t,w⟩=b at*;cases a<;>cases b<;>simp (maxSteps:=9^9) [ba,jc.m,jc.b,aa,setAt,h1,h2,aO]
theorem iY.ak(h:iY.k M)(r:mJ)(v t w:Int):run M 243 [.a (aO r),.c (I v),.a [I t,I w]] []=some (.a (aO (wU r v t w)),[]):=by
 obtain⟨h0,k1,k2⟩:=h;have h1:=iX.ak k1 ⟨v,t,w⟩;have h2:=hQ.ak k2 t w r.time r.eJ;refine au (b:=iY.m) h0 ⟨0, ?_⟩;unfold wU;simp only[aO] at h1;generalize lh t w r.time r.eJ=a at*;generalize oM ⟨v,t,w⟩=b at*;cases a<;>cases b<;>simp (maxSteps:=9^9) [ba,iY.m,iY.b,aa,setAt,h1,h2,aO]
def pK(n t w:Int)(i:Nat)(r:mJ):mJ:=if r.val=nQ n i then r else wU r (nQ n i) t w
def mM(l:List mJ)(n t w:Int):List mJ:=if mG l=true∧kx 0 n 7=true then l.mapIdx (pK n t w) else l
def kC(l:List mJ)(n t w:Int)(k:Nat):List mJ:=l.mapIdx fun i r=>if i<k then pK n t w i r else r
theorem wM(l:List mJ)(n t w:Int):kC l n t w 0=l:=by
 unfold kC;simp[List.mapIdx_eq_iff]
theorem yB(l:List mJ)(n t w:Int):kC l n t w l.length=l.mapIdx (pK n t w):=by
 unfold kC;apply List.ext_getElem
 ·simp
 ·intro i h1 h2;simp at h1 ⊢;intro h;omega
theorem sd(l:List mJ)(n t w:Int)(k:Nat):(kC l n t w k).length=l.length:=by simp[kC]
theorem Al(l:List mJ)(n t w:Int)(k:Nat)(h:k<l.length):(kC l n t w k)[k]'(by simpa [kC] using h)=l[k]:=by simp[kC]
theorem wN(l:List mJ)(n t w:Int)(k:Nat)(h:k<l.length):kC l n t w (k+1)=(kC l n t w k).set k (pK n t w k l[k]):=by
 unfold kC;apply List.ext_getElem
 ·simp
 ·intro i h1 h2;simp only[List.getElem_mapIdx,List.getElem_set];by_cases c:k=i
  ·subst c;simp
  ·rw[if_neg c];by_cases c2:i<k
   ·rw[if_pos c2,if_pos (by omega)]
   ·rw[if_neg c2,if_neg (by omega)]
def Kz(l:List mJ)(n t w:Int)(i:Nat)(x:Nat×Nat×Nat):St:={t:=[(1,.c (I n)),(5,.c (.ptr 5 x.1 0 0)),(7,.c (.row 11200 x.2.1 0 l.length)),(22,.c (.row 11200 x.2.1 0 l.length)),(23,.c (I l.length)),(24,.c (I i))],o:=[(5,⟨x.1,2,true,true,[[I t,I w]]⟩),(11200,⟨x.2.1,3,true,false,(kC l n t w i).map aO⟩)],n:=x.2.2}
def MD(l:List mJ)(n t w:Int)(x:Nat×Nat×Nat):St:={t:=[(1,.c (I n)),(5,.c (.ptr 5 x.1 0 0)),(7,.c (.row 11200 x.2.1 0 l.length)),(22,.c (.row 11200 x.2.1 0 l.length)),(23,.c (I l.length)),(24,.c (I l.length)),(25,.c (.bool false))],o:=[(5,⟨x.1,2,true,true,[[I t,I w]]⟩),(11200,⟨x.2.1,3,true,false,(kC l n t w l.length).map aO⟩)],n:=x.2.2}
theorem A6(n:Int)(i:Nat):0≤nQ n i∧nQ n i≤1:=by unfold nQ;omega
theorem cF.Ju(k:jc.k M)(l:List mJ)(n t w:Int)(K i:Nat)(hl:l.length=3)(hi:i<l.length)(x:Nat×Nat×Nat):
  ∃y,cz (run M) K cF.l0 (Kz l n t w i x)=some (.normal,Kz l n t w (i+1) y):=by
 obtain⟨v,u,x⟩:=x;have e5:=cA (i:=i) (by omega);have h1:=jc.ak k l[i] (nQ n i) t w;have hlen:((kC l n t w i).map aO).length=l.length:=by simp[sd]
 have hi2:i<((kC l n t w i).map aO).length:=by omega
 have hat:((kC l n t w i).map aO)[i]'hi2=aO l[i]:=by rw[fJ,Al]
 have hat2:((kC l n t w i).map aO)[i]? =some (aO l[i]):=by rw[cw hi2,hat]
 have hset:(kC l n t w (i+1)).map aO=((kC l n t w i).map aO).set i (aO (pK n t w i l[i])):=by rw[wN _ _ _ _ _ hi,iE]
 have hb:=A6 n i;have hbit:vY .i64 (n.fdiv ((2^i:Nat):Int)) 1=nQ n i:=Dp _;have hmin:Min.min i 64=i:=by omega
 simp only[Kz,hset,pK,aE];generalize (kC l n t w i).map aO=rr at*;have hbit2:vY .i64 (n.fdiv (2^i)) 1=nQ n i:=by rw[←hbit];norm_cast
 have hii:(i:Int)<3:=by omega
 have h3:i<3:=by omega
 have hng:¬(i:Int)<0:=by omega
 simp only[aO] at h1 hat hat2;by_cases c:l[i].val=nQ n i
 ·rw[if_pos c];have hself:rr.set i [I l[i].val,I l[i].time,I l[i].eJ]=rr:=by
   apply List.ext_getElem?;intro j;rw[List.getElem?_set];split
   ·rename_i hj;subst hj;simp[hi2,hat]
   ·rfl
  rw[hself];simp (maxSteps:=9^9) [cF.l0,setAt,hl,hlen,hat,e5,hmin,hbit2,hii,h3,hng,c,IntKind.bits]
 ·rw[if_neg c];simp (maxSteps:=9^9) [cF.l0,setAt,hl,hlen,hat,e5,hmin,hbit2,hii,h3,hng,c,h1,aO,IntKind.bits]
end Mx
namespace Mx
open Go
theorem uG{t w u x:Int}:lh t w u x=true↔u<t∨t=u∧x<w:=by
 simp[lh]
theorem yL{t w u x:Int}:lh t w u x=false↔¬(u<t∨t=u∧x<w):=by
 rw[←uG];simp
theorem tj:∀a,jH a a=false
 |[]=>rfl
 |x::a=>by simp[jH,tj a]
theorem y6:∀a b,jH a b=true∧jH b a=false∨jH a b=false∧jH b a=true∨jH a b=false∧jH b a=false∧a=b
 |[],[]=>by simp[jH]
 |[],_::_=>by simp[jH]
 |_::_,[]=>by simp[jH]
 |x::a,y::b=>by
  have ih:=y6 a b;simp only[jH];by_cases h1:x<y
  ·have h2:¬y<x:=by rw[UInt8.lt_iff_toNat_lt] at*;omega
   have h3:(y==x)=false:=by
    rw[beq_eq_false_iff_ne];rintro rfl;exact h2 h1
   left;simp[h1,h2,h3]
  ·by_cases h2:y<x
   ·have h3:(x==y)=false:=by
     rw[beq_eq_false_iff_ne];rintro rfl;exact h1 h2
    right;left;simp[h1,h2,h3]
   ·have h3:x=y:=by
     rw[←UInt8.toNat_inj];rw[UInt8.lt_iff_toNat_lt] at*;omega
    subst h3;simpa [h1] using ih
end Mx
namespace Mx
open Go
variable {M:Nat→Option Body}
theorem gZ.ak(h:gZ.k M)(a b:mJ):run M 485 [.a (aO a),.a (aO b)] []=some (.a (aO (pO a b)),[]):=by
 obtain⟨h0,k1⟩:=h;have h1:=fV.ak k1 b.time b.eJ a.time a.eJ;have h2:=fV.ak k1 a.time a.eJ b.time b.eJ;refine au (b:=gZ.m) h0 ⟨0, ?_⟩;unfold pO;generalize lh b.time b.eJ a.time a.eJ=x at*;generalize lh a.time a.eJ b.time b.eJ=y at*;by_cases c:a.val<b.val
 ·cases x<;>cases y<;>simp (maxSteps:=9^9) [ba,gZ.m,gZ.b,aa,setAt,h1,h2,aO,c]
 ·cases x<;>cases y<;>simp (maxSteps:=9^9) [ba,gZ.m,gZ.b,aa,setAt,h1,h2,aO,c]
theorem zD(a b:mJ):pO a b=if lh a.time a.eJ b.time b.eJ=true∨(a.time=b.time∧a.eJ=b.eJ)∧b.val≤a.val then a else b:=by
 unfold pO;simp only[uG,yL];by_cases h1:a.time<b.time∨b.time=a.time∧a.eJ<b.eJ
 ·rw[if_pos (.inl h1),if_neg (by omega)]
 ·by_cases h2:b.time<a.time∨a.time=b.time∧b.eJ<a.eJ
  ·rw[if_neg (by omega),if_pos (.inl h2)]
  ·by_cases h3:a.val<b.val
   ·rw[if_pos (.inr ⟨h2,h3⟩),if_neg (by omega)]
   ·rw[if_neg (by omega),if_pos (by omega)]
theorem gk.ak(h:gk.k M)(a b:mJ):run M 488 [.a (aO a),.a (aO b)] []=some (.a (aO (pO a b)),[]):=by
 obtain⟨h0,k1⟩:=h;have h2:=hQ.ak k1 a.time a.eJ b.time b.eJ;refine au (b:=gk.m) h0 ⟨0, ?_⟩;rw[zD];obtain⟨av,t,w⟩:=a;obtain⟨bv,u,x⟩:=b;simp only at*;generalize lh t w u x=y at*;by_cases c2:t=u
 ·subst c2;by_cases c3:w=x
  ·subst c3;by_cases c:bv≤av<;>cases y<;>simp (maxSteps:=9^9) [ba,gk.m,gk.b,aa,setAt,h2,aO,c]
  ·cases y<;>simp (maxSteps:=9^9) [ba,gk.m,gk.b,aa,setAt,h2,aO,c3]
 ·cases y<;>simp (maxSteps:=9^9) [ba,gk.m,gk.b,aa,setAt,h2,aO,c2]
theorem pW(a b:List mJ):(fg a b).length=Min.min a.length b.length:=by simp[fg]
def G4(a b:List mJ)(i:Nat)(x:Nat×Nat):St:={t:=[(0,.c (jf a)),(1,.c (jf b)),(5,.c (.row 7 x.1 0 i)),(6,.c (I i))],o:=[(7,⟨x.1,3,true,false,((fg a b).take i).map aO⟩)],n:=x.2}
def Jh(a b:List mJ)(x:Nat×Nat):St:={t:=[(0,.c (jf a)),(1,.c (jf b)),(5,.c (.row 7 x.1 0 (Min.min a.length b.length))),(6,.c (I (Min.min a.length b.length:Nat))),(17,.c (.bool false))],o:=[(7,⟨x.1,3,true,false,((fg a b).take (Min.min a.length b.length)).map aO⟩)],n:=x.2}
theorem dQ.ak(h:dQ.k M)(a b:List mJ)(ha:a.length≤1048576)(hb:b.length≤1048576):run M 470 [.c (jf a),.c (jf b)] []=some (.c (.sl true 3 ((fg a b).map aO)),[]):=by
 obtain⟨h0,k1⟩:=h;refine au (b:=dQ.m) h0 ⟨Min.min a.length b.length+1, ?_⟩;have hlen:=pW a b;obtain⟨g,hr⟩:=kq (f:=cz (run M) (Min.min a.length b.length+1) dQ.l0) (Min.min a.length b.length) (G4 a b) 0 (Jh a b)
  (fun i hi x=>by
   obtain⟨v,n⟩:=x;have hia:i<a.length:=by omega
   have hib:i<b.length:=by omega
   have h1:=gZ.ak k1 a[i] b[i];have e5:=cA (i:=i) (by omega);have e6:i+1≤4294967296:=by omega
   have e7:(((fg a b).take i).map aO).length=i:=by simp[hlen];omega
   have e8:(((fg a b).take (i+1)).map aO)=((fg a b).take i).map aO++[aO (pO a[i] b[i])]:=by
    rw[hH _ _ (by rw[hlen];exact hi),cg];simp[fg]
   simp only[G4,e8,aE];generalize ((fg a b).take i).map aO=rr at*;simp only[aO] at h1;simp (maxSteps:=9^9) [dQ.l0,aa,jf,hia,hib,h1,e5,e6,e7,aO,ab])
  (fun x=>by
   obtain⟨v,n⟩:=x;simp only[aE];by_cases c:a.length≤b.length
   ·have e:Min.min a.length b.length=a.length:=by omega
    simp only[G4,Jh,e];simp (maxSteps:=9^9) [dQ.l0,aa,jf]
   ·have e:Min.min a.length b.length=b.length:=by omega
    have c2:b.length<a.length:=by omega
    simp only[G4,Jh,e];simp (maxSteps:=9^9) [dQ.l0,aa,jf,c2])
 have hr0:=hr (2000016,2000064);obtain⟨v,n⟩:=g (2000016,2000064);have e9:(fg a b).take (Min.min a.length b.length)=fg a b:=ab (by omega);have e10:((fg a b).map aO).length=Min.min a.length b.length:=by simp[hlen]
 simp only[G4,Jh,e9,List.take_zero,bS] at hr0;generalize (fg a b).map aO=rr at*;generalize Min.min a.length b.length=k at*;simp at hr0;simp (maxSteps:=9^9) [ba,dQ.m,dQ.b,aa,hr0,e10,ab]
theorem dK.ak(h:dK.k M)(a b:List mJ)(ha:a.length≤1048576)(hb:b.length≤1048576):run M 472 [.c (jf a),.c (jf b)] []=some (.c (.sl true 3 ((fg a b).map aO)),[]):=by
 obtain⟨h0,k1⟩:=h;refine au (b:=dK.m) h0 ⟨Min.min a.length b.length+1, ?_⟩;have hlen:=pW a b;obtain⟨g,hr⟩:=kq (f:=cz (run M) (Min.min a.length b.length+1) dK.l0) (Min.min a.length b.length) (G4 a b) 0 (Jh a b)
  (fun i hi x=>by
   obtain⟨v,n⟩:=x;have hia:i<a.length:=by omega
   have hib:i<b.length:=by omega
   have h1:=gk.ak k1 a[i] b[i];have e5:=cA (i:=i) (by omega);have e6:i+1≤4294967296:=by omega
   have e7:(((fg a b).take i).map aO).length=i:=by simp[hlen];omega
   have e8:(((fg a b).take (i+1)).map aO)=((fg a b).take i).map aO++[aO (pO a[i] b[i])]:=by
    rw[hH _ _ (by rw[hlen];exact hi),cg];simp[fg]
   simp only[G4,e8,aE];generalize ((fg a b).take i).map aO=rr at*;simp only[aO] at h1;simp (maxSteps:=9^9) [dK.l0,aa,jf,hia,hib,h1,e5,e6,e7,aO,ab])
  (fun x=>by
   obtain⟨v,n⟩:=x;simp only[aE];by_cases c:a.length≤b.length
   ·have e:Min.min a.length b.length=a.length:=by omega
    simp only[G4,Jh,e];simp (maxSteps:=9^9) [dK.l0,aa,jf]
   ·have e:Min.min a.length b.length=b.length:=by omega
    have c2:b.length<a.length:=by omega
    simp only[G4,Jh,e];simp (maxSteps:=9^9) [dK.l0,aa,jf,c2])
 have hr0:=hr (2000016,2000064);obtain⟨v,n⟩:=g (2000016,2000064);have e9:(fg a b).take (Min.min a.length b.length)=fg a b:=ab (by omega);have e10:((fg a b).map aO).length=Min.min a.length b.length:=by simp[hlen]
 simp only[G4,Jh,e9,List.take_zero,bS] at hr0;generalize (fg a b).map aO=rr at*;generalize Min.min a.length b.length=k at*;simp at hr0;simp (maxSteps:=9^9) [ba,dK.m,dK.b,aa,hr0,e10,ab]
theorem uT(a b:List UInt8):(!jH b a&& !decide (b=a))=jH a b:=by
 rcases y6 a b with⟨h1,h2⟩|⟨h1,h2⟩|⟨h1,h2,h3⟩
 ·have:¬b=a:=by rintro rfl;rw[tj] at h1;cases h1
  simp[h1,h2,this]
 ·simp[h1,h2]
 ·simp[h3,tj]
theorem rK(a b:bj):(iA a b).flags.length≤a.flags.length:=by
 unfold iA;split
 ·simp only[pW];omega
 ·exact Nat.le_refl _
theorem fu.ak(h:fu.k M)(a b:bj)(ha:a.flags.length≤1048576)(hb:b.flags.length≤1048576):run M 452 [.a (ah a),.a (ah b)] []=some (.a (iC (iA a b)),[]):=by
 obtain⟨h0,k1,k2⟩:=h;have h1:=ei.ak k1 a ha;have h2:=dQ.ak k2 a.flags b.flags ha hb;refine au (b:=fu.m) h0 ⟨0, ?_⟩;unfold iA;by_cases c:a.gid=b.gid
 ·rw[if_pos c];simp only[ah,iC,jf,JV] at*;have e1:((fg a.flags b.flags).map aO).length=(fg a.flags b.flags).length:=by simp
  generalize (fg a.flags b.flags).map aO=rf at*;generalize a.flags.map aO=ra at*;generalize b.flags.map aO=rb at*;have e2:Max.max a.uid b.uid=if b.uid>a.uid then b.uid else a.uid:=by split<;>omega
  rw[e2];by_cases c2:a.uid<b.uid
  ·cases c3:jH a.text b.text<;>simp (maxSteps:=9^9) [ba,fu.m,fu.b,aa,setAt,h2,c,c2,c3,e1,max2,ab]
  ·cases c3:jH a.text b.text<;>simp (maxSteps:=9^9) [ba,fu.m,fu.b,aa,setAt,h2,c,c2,c3,e1,max2,ab]
 ·rw[if_neg c];have e1:(a.flags.map aO).length=a.flags.length:=by simp
  simp only[ah,iC,jf] at*;generalize a.flags.map aO=ra at*;generalize b.flags.map aO=rb at*;simp (maxSteps:=9^9) [ba,fu.m,fu.b,aa,setAt,h1,c,e1,ab]
theorem fq.ak(h:fq.k M)(a b:bj)(ha:a.flags.length≤1048576)(hb:b.flags.length≤1048576):run M 461 [.a (ah a),.a (ah b)] []=some (.a (iC (iA a b)),[]):=by
 obtain⟨h0,k1,k2⟩:=h;have h1:=fD.ak k1 a ha;have h2:=dK.ak k2 a.flags b.flags ha hb;refine au (b:=fq.m) h0 ⟨0, ?_⟩;unfold iA;by_cases c:a.gid=b.gid
 ·rw[if_pos c];simp only[ah,iC,jf,JV] at*;have e1:((fg a.flags b.flags).map aO).length=(fg a.flags b.flags).length:=by simp
  have e3:(a.flags.map aO).length=a.flags.length:=by simp
  generalize (fg a.flags b.flags).map aO=rf at*;generalize a.flags.map aO=ra at*;generalize b.flags.map aO=rb at*;have e2:Max.max a.uid b.uid=if a.uid<b.uid then b.uid else a.uid:=by split<;>omega
  rw[e2];rw[c] at h1;have e4:=uT a.text b.text;by_cases c2:a.uid<b.uid
  ·cases c3:jH a.text b.text<;>simp (maxSteps:=9^9) [ba,fq.m,fq.b,aa,setAt,h1,h2,c,c2,c3,e1,e3,e4,ab]
  ·cases c3:jH a.text b.text<;>simp (maxSteps:=9^9) [ba,fq.m,fq.b,aa,setAt,h1,h2,c,c2,c3,e1,e3,e4,ab]
 ·rw[if_neg c];have e1:(a.flags.map aO).length=a.flags.length:=by simp
  simp only[ah,iC,jf] at*;generalize a.flags.map aO=ra at*;generalize b.flags.map aO=rb at*;simp (maxSteps:=9^9) [ba,fq.m,fq.b,aa,setAt,h1,c,e1,ab]
end Mx
namespace Mx
open Go
theorem lN{σ:Type}{f:St→Option (Out×St)}(S:σ→St)(Inv:σ→Prop)(μ:σ→Nat)(Post:Out×St→Prop)
  (h:∀s,Inv s→(∃s',f (S s)=some (.normal,S s')∧Inv s'∧μ s'<μ s)∨(∃r,f (S s)=some r∧r.1≠.normal∧Post r)):
  ∀m s,Inv s→μ s<m→∃r,fx f m (S s)=some r∧Post r
 |0,s,_,hm=>by omega
 |m+1,s,hi,hm=>by
  rcases h s hi with⟨s',h1,h2,h3⟩|⟨⟨o,r⟩,h1,h2,h3⟩
  ·obtain⟨r,q1,q2⟩:=lN S Inv μ Post h m s' h2 (by omega);exact⟨r,by simp only[fx,h1];exact q1,q2⟩
  ·refine⟨(o,r), ?_,h3⟩;simp only[fx,h1];cases o with
   |normal=>exact(h2 rfl).elim
   |_=>rfl
end Mx
namespace Mx
open Go
variable {M:Nat→Option Body}
def rV(x y:Int):Int:=if x<y then -1 else if y<x then 1 else 0
theorem ue{x y:Int}:rV x y<0↔x<y:=by unfold rV;split<;>(try split)<;>omega
theorem eZ.ak(h:eZ.k M)(x y:Int):run M 457 [.c (I x),.c (I y)] []=some (.c (I (rV x y)),[]):=by
 refine au (b:=eZ.m) h ⟨0, ?_⟩;unfold rV;by_cases c:x<y
 ·simp (maxSteps:=9^9) [ba,eZ.m,eZ.b,aa,c]
 ·by_cases c2:y<x
  ·simp (maxSteps:=9^9) [ba,eZ.m,eZ.b,aa,c,c2]
  ·simp (maxSteps:=9^9) [ba,eZ.m,eZ.b,aa,c,c2]
theorem gH.ak(h:gH.k M)(x y:bj):run M 456 [.a (ah x),.a (ah y)] []=some (.c (I (rV x.gid y.gid)),[]):=by
 have h1:=eZ.ak h.2 x.gid y.gid;refine au (b:=gH.m) h.1 ⟨0, ?_⟩;simp (maxSteps:=9^9) [ba,gH.m,gH.b,aa,h1,ah]
theorem gG.ak(h:gG.k M)(x y:bj):run M 458 [.a (ah x),.a (ah y)] []=some (.c (I (rV x.uid y.uid)),[]):=by
 have h1:=eZ.ak h.2 x.uid y.uid;refine au (b:=gG.m) h.1 ⟨0, ?_⟩;simp (maxSteps:=9^9) [ba,gG.m,gG.b,aa,h1,ah]
theorem xl{α:Type}{k:α→Int}(P:List α)(y x:α)(Q:List α)(h:k x<k y):iB k (P++[y]) x++Q=iB k P x++(y::Q):=by
 have h1:¬k y≤k x:=by omega
 simp[iB,List.filter_append,h,h1]
theorem xk{α:Type}{k:α→Int}(P:List α)(x:α)(h:∀y∈P,k y≤k x):iB k P x=P++[x]:=by
 have h1:P.filter (fun z=>decide (k z≤k x))=P:=List.filter_eq_self.2 fun y hy=>by simpa using h y hy
 have h2:P.filter (fun z=>decide (k x<k z))=[]:=List.filter_eq_nil_iff.2 fun y hy=>by have:=h y hy;simp;omega
 simp[iB,h1,h2]
structure Mp where
 j:Nat
 D:List bj
 n:Nat
def KO(f N i:Nat)(Z:List (List T))(s:Mp):St:={t:=[(0,.c (.row 0 0 0 N)),(1,.c (I 0)),(2,.c (I N)),(3,.c (.fn f [])),(8,.c (I i)),(9,.c (I s.j))],o:=[(0,⟨0,4,true,false,s.D.map ah++Z⟩)],n:=s.n}
def MS(f N i:Nat)(Z:List (List T))(s:Mp):St:={t:=[(0,.c (.row 0 0 0 N)),(1,.c (I 0)),(2,.c (I N)),(3,.c (.fn f [])),(8,.c (I i)),(9,.c (I s.j)),(34,.c (.bool false))],o:=[(0,⟨0,4,true,false,s.D.map ah++Z⟩)],n:=s.n}
structure Nf (k:bj→Int) (N:Nat) (R:List bj) (s:Mp):Prop where
 len:s.D.length=N
 lt:s.j<N
 e:∃P x Q,P.length=s.j∧s.D=P++x::Q∧n9 k P∧iB k P x++Q=R
theorem zy{α β:Type}{f:α→β}{P Q:List α}{x:α}{l:List β}(h:l=(P++x::Q).map f)(i:Nat)(hi:i=P.length):∀hh,l[i]'hh=f x:=by
 subst h;subst hi;intro hh;simp
theorem Ih{f:Nat}{g u g' u':Int}{fl fl':List (List T)}{tx tx':List UInt8}{c:Int}
  (hcmp:run M f [.a [I g,I u,.sl false 3 fl,S tx],.a [I g',I u',.sl false 3 fl',S tx']] []=some (.c (I c),[])) (hc:c<0) (m N i j p:Nat) (hN:N≤1048576) (rr:List (List T)) (e1:IntKind.i64.wrap ((j:Int)-1)=(p:Int)) (hj:j<N) (hp:p<N) (h0:0<j) (e2:j<rr.length) (e3:p<rr.length) (hne:¬j=p) (hne':¬p=j)
  (a1:∀hh,rr[p]'hh=[I g',I u',.sl false 3 fl',S tx']) (a2:∀hh,rr[j]'hh=[I g,I u,.sl false 3 fl,S tx]) (n:Nat):
  ∃n',cz (run M) m ao.l1 {t:=[(0,.c (.row 0 0 0 N)),(1,.c (I 0)),(2,.c (I N)),(3,.c (.fn f [])),(8,.c (I i)),(9,.c (I j))],o:=[(0,⟨0,4,true,false,rr⟩)],n:=n}=
   some (.normal,{t:=[(0,.c (.row 0 0 0 N)),(1,.c (I 0)),(2,.c (I N)),(3,.c (.fn f [])),(8,.c (I i)),(9,.c (I p))],o:=[(0,⟨0,4,true,false,(rr.set j [I g',I u',.sl false 3 fl',S tx']).set p [I g,I u,.sl false 3 fl,S tx]⟩)],n:=n'}):=by
 simp (maxSteps:=9^9) [ao.l1,aa,setAt,hcmp,hc,a1,a2,e1,e2,e3,hj,hp,h0,hne]
theorem Ii{f:Nat}{g u g' u':Int}{fl fl':List (List T)}{tx tx':List UInt8}{c:Int}
  (hcmp:run M f [.a [I g,I u,.sl false 3 fl,S tx],.a [I g',I u',.sl false 3 fl',S tx']] []=some (.c (I c),[])) (hc:¬c<0) (m N i j p:Nat) (hN:N≤1048576) (rr:List (List T)) (e1:IntKind.i64.wrap ((j:Int)-1)=(p:Int)) (hj:j<N) (hp:p<N) (h0:0<j) (e2:j<rr.length) (e3:p<rr.length) (hne:¬j=p) (hne':¬p=j)
  (a1:∀hh,rr[p]'hh=[I g',I u',.sl false 3 fl',S tx']) (a2:∀hh,rr[j]'hh=[I g,I u,.sl false 3 fl,S tx]) (n:Nat):
  ∃n',cz (run M) m ao.l1 {t:=[(0,.c (.row 0 0 0 N)),(1,.c (I 0)),(2,.c (I N)),(3,.c (.fn f [])),(8,.c (I i)),(9,.c (I j))],o:=[(0,⟨0,4,true,false,rr⟩)],n:=n}=
   some (.exit 2,{t:=[(0,.c (.row 0 0 0 N)),(1,.c (I 0)),(2,.c (I N)),(3,.c (.fn f [])),(8,.c (I i)),(9,.c (I j)),(34,.c (.bool false))],o:=[(0,⟨0,4,true,false,rr⟩)],n:=n'}):=by
 simp (maxSteps:=9^9) [ao.l1,aa,hcmp,hc,a1,a2,e1,e2,e3,hj,hp,h0]
theorem J7{f:Nat}(m N i:Nat)(rr:List (List T))(n:Nat):
  ∃n',cz (run M) m ao.l1 {t:=[(0,.c (.row 0 0 0 N)),(1,.c (I 0)),(2,.c (I N)),(3,.c (.fn f [])),(8,.c (I i)),(9,.c (I 0))],o:=[(0,⟨0,4,true,false,rr⟩)],n:=n}=
   some (.exit 2,{t:=[(0,.c (.row 0 0 0 N)),(1,.c (I 0)),(2,.c (I N)),(3,.c (.fn f [])),(8,.c (I i)),(9,.c (I 0)),(34,.c (.bool false))],o:=[(0,⟨0,4,true,false,rr⟩)],n:=n'}):=by
 simp (maxSteps:=9^9) [ao.l1,aa]
theorem Aj{α β:Type}(e:α→β)(P:List α)(x y:α)(Q:List α):(((P++y::x::Q).map e).set (P.length+1) (e y)).set P.length (e x)=(P++x::y::Q).map e:=by
 apply List.ext_getElem
 ·simp
 ·intro q h1 h2;simp only[List.getElem_set,cg,bu,List.getElem_append,eM];by_cases q1:P.length=q
  ·subst q1;simp
  ·by_cases q2:P.length+1=q
   ·subst q2;have q4:¬P.length+1<P.length:=by omega
    have q5:P.length+1-P.length=1:=by omega
    simp[q4,q5]
   ·by_cases q3:q<P.length
    ·simp[q1,q2,q3]
    ·obtain⟨w,rfl⟩:∃w,q=P.length+2+w:=⟨q-P.length-2,by omega⟩
     have:P.length+2+w-P.length=w+2:=by omega
     simp[q1,q2,q3,this]
theorem Ig{f:Nat}{k:bj→Int}(hf:∀x y:bj,run M f [.a (ah x),.a (ah y)] []=some (.c (I (rV (k x) (k y))),[]))(m N i:Nat)(hN:N≤1048576)(Z:List (List T))(R:List bj)(s:Mp)(hs:Nf k N R s):
  (∃s',cz (run M) m ao.l1 (KO f N i Z s)=some (.normal,KO f N i Z s')∧Nf k N R s'∧s'.j<s.j)∨
   (∃r,cz (run M) m ao.l1 (KO f N i Z s)=some r∧r.1≠.normal∧∃s',r=(.exit 2,MS f N i Z s')∧s'.D=R):=by
 obtain⟨j,D,n⟩:=s;obtain⟨hl,hj,P,x,Q,hP,hD,hsort,hR⟩:=hs;simp only at hl hj hP hD;rcases List.eq_nil_or_concat P with rfl|⟨P',y,rfl⟩
 ·right;have hj0:j=0:=by simpa using hP.symm
  subst hj0;obtain⟨n',hh⟩:=J7 (M:=M) (f:=f) m N i (D.map ah++Z) n;exact⟨_,hh,by simp,⟨0,D,n'⟩,rfl,by rw[←hR,hD];simp[iB]⟩
 ·rw[List.concat_eq_append] at hP hD hsort hR;have hlen:j=P'.length+1:=by simpa using hP.symm
  have hDm:D.map ah=(P'++y::(x::Q)).map ah:=by rw[hD];simp
  have hDm2:D.map ah=((P'++[y])++x::Q).map ah:=by rw[hD]
  have a1:∀hh,(D.map ah++Z)[P'.length]'hh=ah y:=by
   intro hh;rw[List.getElem_append_left (by simp;omega)];exact zy hDm P'.length rfl _
  have a2:∀hh,(D.map ah++Z)[j]'hh=ah x:=by
   intro hh;rw[List.getElem_append_left (by simp;omega)];exact zy hDm2 j (by simp[hlen]) _
  have hcmp:=hf x y;have e1:IntKind.i64.wrap ((j:Int)-1)=(P'.length:Int):=by rw[wrap_i64 (by omega) (by omega)];omega
  by_cases c:k x<k y
  ·left;obtain⟨n',hh⟩:=Ih hcmp (ue.2 c) m N i j P'.length hN (D.map ah++Z) e1 hj (by omega) (by omega) (by simp;omega) (by simp;omega) (by omega) (by omega) a1 a2 n;refine⟨⟨P'.length,P'++x::(y::Q),n'⟩, ?_,⟨by simp only;rw[hD] at hl;simp at hl ⊢;omega,by simp only;omega,P',x,y::Q,rfl,rfl,(List.pairwise_append.1 hsort).1,by rw[←hR,xl _ _ _ _ c]⟩,by simp only;omega⟩;have hs:=Aj ah P' x y Q;simp only[KO];rw[←hs,←hDm,←hlen];rw[List.set_append_left _ _ (by simp;omega),List.set_append_left _ _ (by simp;omega)] at hh;exact hh
  ·right;obtain⟨n',hh⟩:=Ii hcmp (fun q=>c (ue.1 q)) m N i j P'.length hN (D.map ah++Z) e1 hj (by omega) (by omega) (by simp;omega) (by simp;omega) (by omega) (by omega) a1 a2 n;refine⟨_,hh,by simp,⟨j,D,n'⟩,rfl, ?_⟩;simp only;rw[hD,←hR,xk]
   ·simp
   ·intro z hz;rcases List.mem_append.1 hz with q|q
    ·have:=(List.pairwise_append.1 hsort).2.2 z q y (by simp);omega
    ·simp at q;subst q;omega
def mc(k:bj→Int)(l:List bj)(i:Nat):List bj:=fc k (l.take i)++l.drop i
theorem BQ(k:bj→Int)(l:List bj)(i:Nat):(mc k l i).length=l.length:=by
 simp only[mc,aD,iK,gd,List.length_drop];omega
structure Nd where
 i:Nat
 n:Nat
def J6(f:Nat)(Z:List (List T))(k:bj→Int)(l:List bj)(s:Nd):St:={t:=[(0,.c (.row 0 0 0 l.length)),(1,.c (I 0)),(2,.c (I l.length)),(3,.c (.fn f [])),(8,.c (I s.i))],o:=[(0,⟨0,4,true,false,(mc k l s.i).map ah++Z⟩)],n:=s.n}
theorem Ie{f:Nat}{k:bj→Int}(hf:∀x y:bj,run M f [.a (ah x),.a (ah y)] []=some (.c (I (rV (k x) (k y))),[]))(m:Nat)(Z:List (List T))(l:List bj)(hN:l.length≤1048576)(hm:l.length<m)(s:Nd)(hs:1≤s.i∧s.i<l.length):
  ∃n',cz (run M) m ao.l0 (J6 f Z k l s)=some (.normal,J6 f Z k l ⟨s.i+1,n'⟩):=by
 obtain⟨i,n⟩:=s;obtain⟨h1,h2⟩:=hs;simp only at h1 h2;have htk:l.take (i+1)=l.take i++[l[i]]:=hH l i h2;have hdr:l.drop i=l[i]::l.drop (i+1):=bA h2;have hR:iB k (fc k (l.take i)) l[i]++l.drop (i+1)=mc k l (i+1):=by
  simp only[mc,htk];congr 1;unfold fc;rw[List.foldl_append];rfl
 obtain⟨r,hr,⟨⟨j,D,n'⟩,rfl,hD⟩⟩:=lN (f:=cz (run M) m ao.l1) (KO f l.length i Z) (Nf k l.length (mc k l (i+1))) (fun s=>s.j)
  (fun r=>∃s',r=(.exit 2,MS f l.length i Z s')∧s'.D=mc k l (i+1)) (fun s hs=>Ig hf m l.length i hN Z _ s hs) m ⟨i,mc k l i,n+48+32⟩
  ⟨BQ k l i,h2,fc k (l.take i),l[i],l.drop (i+1),by rw[iK];simp;omega,by simp only[mc,hdr],oy _,hR⟩ (by simp only;omega)
 simp only at hD;subst hD;simp only[KO,MS] at hr;have e5:=cA (i:=i) (by omega);simp only[J6];generalize (mc k l i).map ah++Z=r0 at*;generalize (mc k l (i+1)).map ah++Z=r1 at*;simp (maxSteps:=9^9) [ao.l0,hr,h2,e5]
def rJ(l:List bj)(Z:List (List T)):Nat×Ob:=(0,⟨0,4,true,false,l.map ah++Z⟩)
theorem BR(k:bj→Int)(l:List bj):mc k l l.length=fc k l:=by simp[mc]
theorem BP(k:bj→Int)(l:List bj):mc k l 1=l:=by
 cases l with
 |nil=>rfl
 |cons x l=>simp[mc,fc,iB]
def Mc(f:Nat)(Z:List (List T))(k:bj→Int)(l:List bj)(s:Nd):St:={t:=[(0,.c (.row 0 0 0 l.length)),(1,.c (I 0)),(2,.c (I l.length)),(3,.c (.fn f [])),(8,.c (I s.i)),(14,.c (.bool false))],o:=[(0,⟨0,4,true,false,(mc k l s.i).map ah++Z⟩)],n:=s.n}
theorem J5{f:Nat}{k:bj→Int}(m:Nat)(Z:List (List T))(l:List bj)(i n:Nat)(h:l.length≤i):∃n',cz (run M) m ao.l0 (J6 f Z k l ⟨i,n⟩)=some (.exit 0,Mc f Z k l ⟨i,n'⟩):=by
 have h2:¬i<l.length:=by omega
 simp only[J6,Mc];generalize (mc k l i).map ah++Z=r0 at*;simp (maxSteps:=9^9) [ao.l0,h2]
theorem ao.ak(h:ao.k M){f:Nat}{k:bj→Int}(hf:∀x y:bj,run M f [.a (ah x),.a (ah y)] []=some (.c (I (rV (k x) (k y))),[]))
  (l:List bj) (Z:List (List T)) (hN:l.length≤1048576):run M 486 [.c (.row 0 0 0 l.length),.c (I 0),.c (I l.length),.c (.fn f [])] [rJ l Z]=some (.lM [],[rJ (fc k l) Z]):=by
 refine au (b:=ao.m) h ⟨l.length+1, ?_⟩;obtain⟨r,hr,⟨⟨i,n'⟩,rfl,hi⟩⟩:=lN (f:=cz (run M) (l.length+1) ao.l0) (J6 f Z k l) (fun s=>1≤s.i∧(s.i≤l.length∨s.i=1)) (fun s=>l.length-s.i)
  (fun r=>∃s',r=(.exit 0,Mc f Z k l s')∧(s'.i=l.length∨l.length=0∧s'.i=1))
  (fun s hs=>by
   obtain⟨i,n⟩:=s;by_cases c:i<l.length
   ·left;obtain⟨n',hh⟩:=Ie hf (l.length+1) Z l hN (by omega) ⟨i,n⟩ ⟨hs.1,c⟩;exact⟨_,hh,⟨by simp only;omega,by simp only;omega⟩,by simp only;omega⟩
   ·right;obtain⟨n',hh⟩:=J5 (M:=M) (f:=f) (k:=k) (l.length+1) Z l i n (by omega);simp only at hs;exact⟨_,hh,by simp,_,rfl,by simp only;omega⟩) (l.length+1) ⟨1,2000048⟩ ⟨by simp,by simp⟩ (by simp only;omega)
 have e1:mc k l i=fc k l:=by
  rcases hi with hi|⟨h0,hi⟩
  ·simp only at hi;rw[hi,BR]
  ·have:l=[]:=aY h0;subst this;simp[mc,fc]
 simp only[J6,Mc,e1,BP] at hr;have e2:IntKind.i64.wrap 1=1:=by decide
 have e3:((1:Nat):Int)=1:=rfl;rw[e3] at hr;simp only[rJ];generalize l.map ah++Z=r0 at*;generalize (fc k l).map ah++Z=r1 at*;simp (maxSteps:=9^9) [ba,ao.m,ao.b,aa,hr,e2]
theorem ao.rest(h:ao.k M){f:Nat}(l:List bj)(Z:List (List T))(hN:l.length≤1048576):
  run M 486 [.c (.row 0 0 0 l.length),.c (I l.length),.c (I l.length),.c (.fn f [])] [rJ l Z]=some (.lM [],[rJ l Z]):=by
 refine au (b:=ao.m) h ⟨1, ?_⟩;have e2:IntKind.i64.wrap ((l.length:Int)+1)=(l.length:Int)+1:=wrap_i64 (by omega) (by omega);have e3:¬(l.length:Int)+1<l.length:=by omega
 simp only[rJ];have e4:l.length≤(l.map ah++Z).length:=by simp
 generalize l.map ah++Z=r0 at*;simp (maxSteps:=9^9) [ba,ao.m,ao.b,aa,fx,ao.l0,e2,e3]
theorem aM.ak(h:aM.k M){f:Nat}{k:bj→Int}(hf:∀x y:bj,run M f [.a (ah x),.a (ah y)] []=some (.c (I (rV (k x) (k y))),[]))
  (l:List bj) (Z:List (List T)) (hN:l.length≤20):run M 471 [.c (.row 0 0 0 l.length),.c (I l.length),.c (.fn f [])] [rJ l Z]=some (.lM [],[rJ (fc k l) Z]):=by
 obtain⟨h0,k1⟩:=h;have h1:=ao.ak k1 hf l Z (by omega);have h2:=ao.rest k1 (f:=f) (fc k l) Z (by rw[iK];omega);rw[iK] at h2;refine au (b:=aM.m) h0 ⟨2, ?_⟩;have e1:l.length≤(l.map ah++Z).length:=by simp
 have e2:l.length≤((fc k l).map ah++Z).length:=by simp[iK]
 simp only[rJ] at h1 h2 ⊢;generalize l.map ah++Z=r0 at*;generalize (fc k l).map ah++Z=r1 at*;by_cases c:l.length=20
 ·generalize l.length=N at*;subst c;simp only[jJ] at h1 h2;have w1:IntKind.i64.wrap 40=40:=by decide
  simp (maxSteps:=9^9) [ba,aM.m,aM.b,aa,h1,h2,w1,fx,aM.l0,aM.l1,e1,e2]
 ·have c1:¬(20:Int)≤l.length:=by omega
  have c2:¬(20:Int)<l.length:=by omega
  have c3:¬20≤l.length:=by omega
  have c4:¬20<l.length:=by omega
  simp (maxSteps:=9^9) [ba,aM.m,aM.b,aa,h1,c1,c2,fx,aM.l0,aM.l1,e1]
theorem aU.ak(h:aU.k M){f:Nat}{k:bj→Int}(hf:∀x y:bj,run M f [.a (ah x),.a (ah y)] []=some (.c (I (rV (k x) (k y))),[]))
  (l:List bj) (Z:List (List T)) (hN:l.length≤20):run M 455 [.c (.row 0 0 0 l.length),.c (.fn f [])] [rJ l Z]=some (.lM [],[rJ (fc k l) Z]):=by
 have h1:=aM.ak h.2 hf l Z hN;refine au (b:=aU.m) h.1 ⟨0, ?_⟩;have e1:l.length≤(l.map ah++Z).length:=by simp
 simp only[rJ] at h1 ⊢;generalize l.map ah++Z=r0 at*;generalize (fc k l).map ah++Z=r1 at*;simp (maxSteps:=9^9) [ba,aU.m,aU.b,aa,h1,e1]
def tJ{α:Type}(p:α→Bool)(l:List α)(i:Nat):Bool:=match l[i]? with|some m=>p m|none=>false
theorem jY{α:Type}(p:α→Bool)(l:List α)(i:Nat)(h:i<l.length):tJ p l i=p l[i]:=by simp[tJ,h]
def KQ(f:Nat)(cs:List T)(l:List bj)(i:Nat)(x:Nat):St:={t:=[(0,.c (ae l)),(1,.c (.fn f [.vp cs 0])),(7,.c (I l.length)),(8,.c (I i))],o:=[],n:=x}
theorem az.gen(h:az.k M){f:Nat}{cs:List T}{p:bj→Bool}(hf:∀m,run M f [.a (ah m),.c (.vp cs 0)] []=some (.c (.bool (p m)),[]))(l:List bj)(hl:l.length≤1048576):
  run M 161 [.c (ae l),.c (.fn f [.vp cs 0])] []=some (.c (I (dA (dV (tJ p l) l.length))),[]):=by
 refine au (b:=az.m) h ⟨l.length+1, ?_⟩;obtain⟨g',hr⟩:=mU (f:=cz (run M) (l.length+1) az.l0) l.length (tJ p l) (KQ f cs l) j6 pE
  (fun i hi x c=>by
   have hm:=hf l[i];rw[jY p l i hi] at c;rw[c] at hm;have e5:=cA (i:=i) (by omega);simp[KQ,az.l0,hi,hm,ah,e5])
  (fun i hi x c=>by
   have hm:=hf l[i];rw[jY p l i hi] at c;rw[c] at hm;simp[KQ,az.l0,hi,hm,ah,j6];exact⟨⟨[],[],_⟩,rfl⟩)
  (fun x=>by simp[KQ,az.l0,j6])
 cases hm:dV (tJ p l) l.length with
 |none=>
  simp[KQ,hm,j6] at hr;simp[ba,az.m,az.b,aa,hr,dA]
 |some k=>
  simp[KQ,hm,j6] at hr;simp[ba,az.m,az.b,aa,hr,dA]
theorem IB{f:Nat}{cs:List T}{g u:Int}{fl:List (List T)}{tx:List UInt8}(hf:run M f [.a [I g,I u,.sl false 3 fl,S tx],.c (.vp cs 0)] []=some (.c (.bool false),[]))(m N i j:Nat)(hN:N≤1048576)(rr:List (List T))(hj:j<N)(hi:i<N)(e2:rr.length=N)
  (a1:∀hh,rr[j]'hh=[I g,I u,.sl false 3 fl,S tx]) (n:Nat) (ri:List T) (a2:rr[i]? =some ri) (a3:ri.length=4):
  ∃n',cz (run M) m aC.l0 {t:=[(0,.c (.row 0 0 0 N)),(1,.c (.fn f [.vp cs 0])),(5,.c (I i)),(6,.c (I j))],o:=[(0,⟨0,4,true,false,rr⟩)],n:=n}=
   some (.normal,{t:=[(0,.c (.row 0 0 0 N)),(1,.c (.fn f [.vp cs 0])),(5,.c (I (i+1:Nat))),(6,.c (I (j+1:Nat)))],o:=[(0,⟨0,4,true,false,rr.set i [I g,I u,.sl false 3 fl,S tx]⟩)],n:=n'}):=by
 have e5:=cA (i:=i) (by omega);have e6:=cA (i:=j) (by omega)
 match ri,a3 with
 |[r0,r1,r2,r3],_=>
  have a4:∀hh,rr[i]'hh=[r0,r1,r2,r3]:=by
   intro hh;rw[cw hh] at a2;exact Option.some.inj a2
  clear a2;simp (maxSteps:=9^9) [aC.l0,setAt,hf,hj,hi,e2,a1,a4,e5,e6]
theorem IC{f:Nat}{cs:List T}{g u:Int}{fl:List (List T)}{tx:List UInt8}(hf:run M f [.a [I g,I u,.sl false 3 fl,S tx],.c (.vp cs 0)] []=some (.c (.bool true),[]))(m N i j:Nat)(hN:N≤1048576)(rr:List (List T))(hj:j<N)(e2:rr.length=N)
  (a1:∀hh,rr[j]'hh=[I g,I u,.sl false 3 fl,S tx]) (n:Nat):
  ∃n',cz (run M) m aC.l0 {t:=[(0,.c (.row 0 0 0 N)),(1,.c (.fn f [.vp cs 0])),(5,.c (I i)),(6,.c (I j))],o:=[(0,⟨0,4,true,false,rr⟩)],n:=n}=
   some (.normal,{t:=[(0,.c (.row 0 0 0 N)),(1,.c (.fn f [.vp cs 0])),(5,.c (I i)),(6,.c (I (j+1:Nat)))],o:=[(0,⟨0,4,true,false,rr⟩)],n:=n'}):=by
 have e6:=cA (i:=j) (by omega);simp (maxSteps:=9^9) [aC.l0,setAt,hf,hj,e2,a1,e6]
theorem Kg{f:Nat}{cs:List T}(m N i j:Nat)(rr:List (List T))(hj:¬j<N)(n:Nat):
  ∃n',cz (run M) m aC.l0 {t:=[(0,.c (.row 0 0 0 N)),(1,.c (.fn f [.vp cs 0])),(5,.c (I i)),(6,.c (I j))],o:=[(0,⟨0,4,true,false,rr⟩)],n:=n}=
   some (.exit 0,{t:=[(0,.c (.row 0 0 0 N)),(1,.c (.fn f [.vp cs 0])),(5,.c (I i)),(6,.c (I j)),(19,.c (.bool false))],o:=[(0,⟨0,4,true,false,rr⟩)],n:=n'}):=by
 simp (maxSteps:=9^9) [aC.l0,hj]
structure Mq where
 j:Nat
 D:List bj
 n:Nat
def lS(p:bj→Bool)(l:List bj)(j:Nat):List bj:=(l.take j).filter fun m=> !p m
def Kh(f:Nat)(cs:List T)(p:bj→Bool)(l:List bj)(s:Mq):St:={t:=[(0,.c (.row 0 0 0 l.length)),(1,.c (.fn f [.vp cs 0])),(5,.c (I (lS p l s.j).length)),(6,.c (I s.j))],o:=[(0,⟨0,4,true,false,s.D.map ah⟩)],n:=s.n}
def MZ(f:Nat)(cs:List T)(p:bj→Bool)(l:List bj)(s:Mq):St:={t:=[(0,.c (.row 0 0 0 l.length)),(1,.c (.fn f [.vp cs 0])),(5,.c (I (lS p l s.j).length)),(6,.c (I s.j)),(19,.c (.bool false))],o:=[(0,⟨0,4,true,false,s.D.map ah⟩)],n:=s.n}
structure LR (p:bj→Bool) (l:List bj) (s:Mq):Prop where
 j:s.j≤l.length
 len:s.D.length=l.length
 tk:s.D.take (lS p l s.j).length=lS p l s.j
 dr:s.D.drop s.j=l.drop s.j
 lt:(lS p l s.j).length<s.j
theorem IA{f:Nat}{cs:List T}{p:bj→Bool}(hf:∀m,run M f [.a (ah m),.c (.vp cs 0)] []=some (.c (.bool (p m)),[]))(k:Nat)(l:List bj)(hN:l.length≤1048576)(s:Mq)(hs:LR p l s):
  (∃s',cz (run M) k aC.l0 (Kh f cs p l s)=some (.normal,Kh f cs p l s')∧LR p l s'∧l.length-s'.j<l.length-s.j)∨
   (∃r,cz (run M) k aC.l0 (Kh f cs p l s)=some r∧r.1≠.normal∧∃s',r=(.exit 0,MZ f cs p l s')∧s'.j=l.length∧LR p l s'):=by
 obtain⟨j,D,n⟩:=s;obtain⟨h1,h2,h3,h4,h5⟩:=hs;simp only at h1 h2 h3 h4 h5;by_cases c:j<l.length
 ·left;have hD:D[j]'(by omega)=l[j]:=by
   have q1:=bA (l:=D) (i:=j) (by omega);have q2:=bA (l:=l) (i:=j) c;rw[h4,q2] at q1;exact(List.cons.inj q1).1.symm
  have hdr:D.drop (j+1)=l.drop (j+1):=by
   have q1:=bA (l:=D) (i:=j) (by omega);have q2:=bA (l:=l) (i:=j) c;rw[h4,q2] at q1;exact(List.cons.inj q1).2.symm
  have a1:∀hh,(D.map ah)[j]'hh=ah l[j]:=by intro hh;simp[hD]
  have e2:(D.map ah).length=l.length:=by simpa using h2
  have hm:=hf l[j];have ek:lS p l (j+1)=lS p l j++if p l[j]=true then [] else [l[j]]:=by
   simp only[lS,hH l j c,List.filter_append];cases q:p l[j]<;>simp[q]
  cases q:p l[j] with
  |true=>
   rw[q] at hm;obtain⟨n',hh⟩:=IC hm k l.length (lS p l j).length j hN (D.map ah) c e2 a1 n;rw[q] at ek;simp only[if_true,cR] at ek;refine⟨⟨j+1,D,n'⟩, ?_,⟨by simp only;omega,h2,by simp only[ek];exact h3,hdr,by simp only[ek];omega⟩,by simp only;omega⟩;simp only[Kh,ek];exact hh
  |false=>
   rw[q] at hm;have hi:(lS p l j).length<l.length:=by omega
   obtain⟨n',hh⟩:=IB hm k l.length (lS p l j).length j hN (D.map ah) c hi e2 a1 n (ah (D[(lS p l j).length]'(by omega))) (by rw[iM,cw (by omega)];rfl) rfl;rw[q] at ek;simp only[aB,if_false] at ek;have el:(lS p l (j+1)).length=(lS p l j).length+1:=by rw[ek];simp
   refine⟨⟨j+1,D.set (lS p l j).length l[j],n'⟩, ?_,⟨by simp only;omega,by simpa using h2, ?_, ?_,by simp only[el];omega⟩,by simp only;omega⟩
   ·simp only[Kh,el,iE];exact hh
   ·show (D.set (lS p l j).length l[j]).take (lS p l (j+1)).length=lS p l (j+1);rw[el,ek,hH _ _ (by simp;omega),List.take_set_of_le (Nat.le_refl _),h3];simp
   ·simp only;rw[List.drop_set_of_lt (by omega)];exact hdr
 ·right;have hj:j=l.length:=by omega
  obtain⟨n',hh⟩:=Kg (M:=M) (f:=f) (cs:=cs) k l.length (lS p l j).length j (D.map ah) c n;exact⟨_,hh,by simp,⟨j,D,n'⟩,rfl,hj,⟨h1,h2,h3,h4,h5⟩⟩
theorem aC.ak(h:aC.k M){f:Nat}{cs:List T}{p:bj→Bool}(hf:∀m,run M f [.a (ah m),.c (.vp cs 0)] []=some (.c (.bool (p m)),[]))(l:List bj)(hl:l.length≤1048576):
  run M 453 [.c (.row 0 0 0 l.length),.c (.fn f [.vp cs 0])] [rJ l []]=
   some (.c (.row 0 0 0 (l.filter fun m=> !p m).length),[(0,⟨0,4,true,false,(l.filter fun m=> !p m).map ah++List.replicate (l.length-(l.filter fun m=> !p m).length) sQ⟩)]):=by
 obtain⟨h0,k1⟩:=h;have h1:=az.gen k1 hf l hl;refine au (b:=aC.m) h0 ⟨l.length+1, ?_⟩;have e0:(l.map ah).length=l.length:=by simp
 cases hq:dV (tJ p l) l.length with
 |none=>
  have hall:(l.filter fun m=> !p m)=l:=List.filter_eq_self.2 fun m hm=>by
   obtain⟨j,hj,rfl⟩:=bQ hm;have:=lZ hq j hj;rw[jY p l j hj] at this;simp[this]
  rw[hall,Nat.sub_self,List.replicate_zero,cR];rw[hq] at h1;simp only[rJ,ae,dA,cR] at h1 ⊢;generalize l.map ah=r0 at*;simp (maxSteps:=9^9) [ba,aC.m,aC.b,aa,h1,e0,ab]
 |some k=>
  rw[hq] at h1;obtain⟨hk1,hk2,hk3⟩:=lY hq;rw[jY p l k hk1] at hk2;have ek:lS p l k=l.take k:=by
   refine List.filter_eq_self.2 fun m hm=> ?_
   obtain⟨j,hj,rfl⟩:=bQ hm;have hj':j<k:=by simp at hj;omega
   have:=hk3 j hj';rw[jY p l j (by omega)] at this;simp[this]
  have ek1:lS p l (k+1)=l.take k:=by
   simp only[lS,hH l k hk1,List.filter_append] at ek ⊢;rw[ek];simp[hk2]
  have el:(lS p l (k+1)).length=k:=by rw[ek1];simp;omega
  obtain⟨r,hr,⟨⟨j,D,n'⟩,rfl,hj,hI⟩⟩:=lN (f:=cz (run M) (l.length+1) aC.l0) (Kh f cs p l) (LR p l) (fun s=>l.length-s.j)
   (fun r=>∃s',r=(.exit 0,MZ f cs p l s')∧s'.j=l.length∧LR p l s') (fun s hs=>IA hf (l.length+1) l hl s hs) (l.length+1) ⟨k+1,l,2000160⟩
   ⟨by simp only;omega,rfl,by show l.take (lS p l (k+1)).length=lS p l (k+1);rw[el,ek1],rfl,by simp only[el];omega⟩ (by simp only;omega)
  obtain⟨_,hlen,htk,_,hlt⟩:=hI;simp only at hj hlen htk hlt;subst hj;have ef:lS p l l.length=l.filter fun m=> !p m:=by simp[lS]
  rw[ef] at htk hlt;simp only[Kh,MZ,el,ef] at hr;have e1:(D.map ah).length=l.length:=by simpa using hlen
  have e2:(D.map ah).take (l.filter fun m=> !p m).length=(l.filter fun m=> !p m).map ah:=by rw[←List.map_take,htk]
  have e3:((l.filter fun m=> !p m).map ah).length=(l.filter fun m=> !p m).length:=by simp
  have e5:=cA (i:=k) (by omega);have e6:((k+1:Nat):Int)=(k:Int)+1:=by omega
  have e7:¬(k:Int)= -1:=by omega
  rw[e6] at hr;simp only[rJ,ae,dA,cR] at h1 ⊢;generalize (l.filter fun m=> !p m).map ah=rf at*;generalize (l.filter fun m=> !p m).length=nf at*;generalize D.map ah=rd at*;generalize l.map ah=r0 at*;clear hk2 hk3 ek ek1 el hq ef;generalize l.length=N at*;have e8:nf≤N:=by omega
  have e9:¬N=nf:=by omega
  have e10:¬nf=N:=by omega
  have e11:nf+(N-nf)=N:=by omega
  have e12:¬N-nf=0:=by omega
  have e13:List.drop N rd=[]:=dY (by omega);simp (maxSteps:=9^9) [ba,aC.m,aC.b,aa,h1,hr,e0,e1,e2,e3,e5,e7,e8,e10,e11,e12,e13,ab]
theorem fi.ak(h:fi.k M)(x y:bq):run M 481 [.a (af x),.a (af y)] []=some (.c (I (rV x.gid y.gid)),[]):=by
 have h1:=eZ.ak h.2 x.gid y.gid;refine au (b:=fi.m) h.1 ⟨0, ?_⟩;simp (maxSteps:=9^9) [ba,fi.m,fi.b,aa,h1,af]
structure Mr where
 j:Nat
 D:List bq
 n:Nat
def KT(f N i:Nat)(Z:List (List T))(s:Mr):St:={t:=[(0,.c (.row 0 0 0 N)),(1,.c (I 0)),(2,.c (I N)),(3,.c (.fn f [])),(8,.c (I i)),(9,.c (I s.j))],o:=[(0,⟨0,7,true,false,s.D.map af++Z⟩)],n:=s.n}
def M6(f N i:Nat)(Z:List (List T))(s:Mr):St:={t:=[(0,.c (.row 0 0 0 N)),(1,.c (I 0)),(2,.c (I N)),(3,.c (.fn f [])),(8,.c (I i)),(9,.c (I s.j)),(34,.c (.bool false))],o:=[(0,⟨0,7,true,false,s.D.map af++Z⟩)],n:=s.n}
structure Ni (k:bq→Int) (N:Nat) (R:List bq) (s:Mr):Prop where
 len:s.D.length=N
 lt:s.j<N
 e:∃P x Q,P.length=s.j∧s.D=P++x::Q∧n9 k P∧iB k P x++Q=R
theorem IH{f:Nat}{g t w u g' t' w' u':Int}{nm nm':List UInt8}{fl fl' tx tx':List (List T)}{c:Int}
  (hcmp:run M f [.a [I g,S nm,I t,I w,I u,.sl false 4 fl,.sl false 1 tx],.a [I g',S nm',I t',I w',I u',.sl false 4 fl',.sl false 1 tx']] []=some (.c (I c),[])) (hc:c<0) (m N i j p:Nat) (hN:N≤1048576) (rr:List (List T)) (e1:IntKind.i64.wrap ((j:Int)-1)=(p:Int)) (hj:j<N) (hp:p<N) (h0:0<j) (e2:j<rr.length) (e3:p<rr.length) (hne:¬j=p) (hne':¬p=j)
  (a1:∀hh,rr[p]'hh=[I g',S nm',I t',I w',I u',.sl false 4 fl',.sl false 1 tx']) (a2:∀hh,rr[j]'hh=[I g,S nm,I t,I w,I u,.sl false 4 fl,.sl false 1 tx]) (n:Nat):
  ∃n',cz (run M) m ar.l1 {t:=[(0,.c (.row 0 0 0 N)),(1,.c (I 0)),(2,.c (I N)),(3,.c (.fn f [])),(8,.c (I i)),(9,.c (I j))],o:=[(0,⟨0,7,true,false,rr⟩)],n:=n}=
   some (.normal,{t:=[(0,.c (.row 0 0 0 N)),(1,.c (I 0)),(2,.c (I N)),(3,.c (.fn f [])),(8,.c (I i)),(9,.c (I p))],o:=[(0,⟨0,7,true,false,(rr.set j [I g',S nm',I t',I w',I u',.sl false 4 fl',.sl false 1 tx']).set p [I g,S nm,I t,I w,I u,.sl false 4 fl,.sl false 1 tx]⟩)],n:=n'}):=by
 simp (maxSteps:=9^9) [ar.l1,aa,setAt,hcmp,hc,a1,a2,e1,e2,e3,hj,hp,h0,hne]
theorem II{f:Nat}{g t w u g' t' w' u':Int}{nm nm':List UInt8}{fl fl' tx tx':List (List T)}{c:Int}
  (hcmp:run M f [.a [I g,S nm,I t,I w,I u,.sl false 4 fl,.sl false 1 tx],.a [I g',S nm',I t',I w',I u',.sl false 4 fl',.sl false 1 tx']] []=some (.c (I c),[])) (hc:¬c<0) (m N i j p:Nat) (hN:N≤1048576) (rr:List (List T)) (e1:IntKind.i64.wrap ((j:Int)-1)=(p:Int)) (hj:j<N) (hp:p<N) (h0:0<j) (e2:j<rr.length) (e3:p<rr.length) (hne:¬j=p) (hne':¬p=j)
  (a1:∀hh,rr[p]'hh=[I g',S nm',I t',I w',I u',.sl false 4 fl',.sl false 1 tx']) (a2:∀hh,rr[j]'hh=[I g,S nm,I t,I w,I u,.sl false 4 fl,.sl false 1 tx]) (n:Nat):
  ∃n',cz (run M) m ar.l1 {t:=[(0,.c (.row 0 0 0 N)),(1,.c (I 0)),(2,.c (I N)),(3,.c (.fn f [])),(8,.c (I i)),(9,.c (I j))],o:=[(0,⟨0,7,true,false,rr⟩)],n:=n}=
   some (.exit 2,{t:=[(0,.c (.row 0 0 0 N)),(1,.c (I 0)),(2,.c (I N)),(3,.c (.fn f [])),(8,.c (I i)),(9,.c (I j)),(34,.c (.bool false))],o:=[(0,⟨0,7,true,false,rr⟩)],n:=n'}):=by
 simp (maxSteps:=9^9) [ar.l1,aa,hcmp,hc,a1,a2,e1,e2,e3,hj,hp,h0]
theorem Kk{f:Nat}(m N i:Nat)(rr:List (List T))(n:Nat):
  ∃n',cz (run M) m ar.l1 {t:=[(0,.c (.row 0 0 0 N)),(1,.c (I 0)),(2,.c (I N)),(3,.c (.fn f [])),(8,.c (I i)),(9,.c (I 0))],o:=[(0,⟨0,7,true,false,rr⟩)],n:=n}=
   some (.exit 2,{t:=[(0,.c (.row 0 0 0 N)),(1,.c (I 0)),(2,.c (I N)),(3,.c (.fn f [])),(8,.c (I i)),(9,.c (I 0)),(34,.c (.bool false))],o:=[(0,⟨0,7,true,false,rr⟩)],n:=n'}):=by
 simp (maxSteps:=9^9) [ar.l1,aa]
theorem IG{f:Nat}{k:bq→Int}(hf:∀x y:bq,run M f [.a (af x),.a (af y)] []=some (.c (I (rV (k x) (k y))),[]))(m N i:Nat)(hN:N≤1048576)(Z:List (List T))(R:List bq)(s:Mr)(hs:Ni k N R s):
  (∃s',cz (run M) m ar.l1 (KT f N i Z s)=some (.normal,KT f N i Z s')∧Ni k N R s'∧s'.j<s.j)∨
   (∃r,cz (run M) m ar.l1 (KT f N i Z s)=some r∧r.1≠.normal∧∃s',r=(.exit 2,M6 f N i Z s')∧s'.D=R):=by
 obtain⟨j,D,n⟩:=s;obtain⟨hl,hj,P,x,Q,hP,hD,hsort,hR⟩:=hs;simp only at hl hj hP hD;rcases List.eq_nil_or_concat P with rfl|⟨P',y,rfl⟩
 ·right;have hj0:j=0:=by simpa using hP.symm
  subst hj0;obtain⟨n',hh⟩:=Kk (M:=M) (f:=f) m N i (D.map af++Z) n;exact⟨_,hh,by simp,⟨0,D,n'⟩,rfl,by rw[←hR,hD];simp[iB]⟩
 ·rw[List.concat_eq_append] at hP hD hsort hR;have hlen:j=P'.length+1:=by simpa using hP.symm
  have hDm:D.map af=(P'++y::(x::Q)).map af:=by rw[hD];simp
  have hDm2:D.map af=((P'++[y])++x::Q).map af:=by rw[hD]
  have a1:∀hh,(D.map af++Z)[P'.length]'hh=af y:=by
   intro hh;rw[List.getElem_append_left (by simp;omega)];exact zy hDm P'.length rfl _
  have a2:∀hh,(D.map af++Z)[j]'hh=af x:=by
   intro hh;rw[List.getElem_append_left (by simp;omega)];exact zy hDm2 j (by simp[hlen]) _
  have hcmp:=hf x y;have e1:IntKind.i64.wrap ((j:Int)-1)=(P'.length:Int):=by rw[wrap_i64 (by omega) (by omega)];omega
  by_cases c:k x<k y
  ·left;obtain⟨n',hh⟩:=IH hcmp (ue.2 c) m N i j P'.length hN (D.map af++Z) e1 hj (by omega) (by omega) (by simp;omega) (by simp;omega) (by omega) (by omega) a1 a2 n;refine⟨⟨P'.length,P'++x::(y::Q),n'⟩, ?_,⟨by simp only;rw[hD] at hl;simp at hl ⊢;omega,by simp only;omega,P',x,y::Q,rfl,rfl,(List.pairwise_append.1 hsort).1,by rw[←hR,xl _ _ _ _ c]⟩,by simp only;omega⟩;have hs:=Aj af P' x y Q;simp only[KT];rw[←hs,←hDm,←hlen];rw[List.set_append_left _ _ (by simp;omega),List.set_append_left _ _ (by simp;omega)] at hh;exact hh
  ·right;obtain⟨n',hh⟩:=II hcmp (fun q=>c (ue.1 q)) m N i j P'.length hN (D.map af++Z) e1 hj (by omega) (by omega) (by simp;omega) (by simp;omega) (by omega) (by omega) a1 a2 n;refine⟨_,hh,by simp,⟨j,D,n'⟩,rfl, ?_⟩;simp only;rw[hD,←hR,xk]
   ·simp
   ·intro z hz;rcases List.mem_append.1 hz with q|q
    ·have:=(List.pairwise_append.1 hsort).2.2 z q y (by simp);omega
    ·simp at q;subst q;omega
def kT(k:bq→Int)(l:List bq)(i:Nat):List bq:=fc k (l.take i)++l.drop i
theorem Ah(k:bq→Int)(l:List bq)(i:Nat):(kT k l i).length=l.length:=by
 simp only[kT,aD,iK,gd,List.length_drop];omega
structure Nh where
 i:Nat
 n:Nat
def Ki(f:Nat)(Z:List (List T))(k:bq→Int)(l:List bq)(s:Nh):St:={t:=[(0,.c (.row 0 0 0 l.length)),(1,.c (I 0)),(2,.c (I l.length)),(3,.c (.fn f [])),(8,.c (I s.i))],o:=[(0,⟨0,7,true,false,(kT k l s.i).map af++Z⟩)],n:=s.n}
theorem IF{f:Nat}{k:bq→Int}(hf:∀x y:bq,run M f [.a (af x),.a (af y)] []=some (.c (I (rV (k x) (k y))),[]))(m:Nat)(Z:List (List T))(l:List bq)(hN:l.length≤1048576)(hm:l.length<m)(s:Nh)(hs:1≤s.i∧s.i<l.length):
  ∃n',cz (run M) m ar.l0 (Ki f Z k l s)=some (.normal,Ki f Z k l ⟨s.i+1,n'⟩):=by
 obtain⟨i,n⟩:=s;obtain⟨h1,h2⟩:=hs;simp only at h1 h2;have htk:l.take (i+1)=l.take i++[l[i]]:=hH l i h2;have hdr:l.drop i=l[i]::l.drop (i+1):=bA h2;have hR:iB k (fc k (l.take i)) l[i]++l.drop (i+1)=kT k l (i+1):=by
  simp only[kT,htk];congr 1;unfold fc;rw[List.foldl_append];rfl
 obtain⟨r,hr,⟨⟨j,D,n'⟩,rfl,hD⟩⟩:=lN (f:=cz (run M) m ar.l1) (KT f l.length i Z) (Ni k l.length (kT k l (i+1))) (fun s=>s.j)
  (fun r=>∃s',r=(.exit 2,M6 f l.length i Z s')∧s'.D=kT k l (i+1)) (fun s hs=>IG hf m l.length i hN Z _ s hs) m ⟨i,kT k l i,n+48+32⟩
  ⟨Ah k l i,h2,fc k (l.take i),l[i],l.drop (i+1),by rw[iK];simp;omega,by simp only[kT,hdr],oy _,hR⟩ (by simp only;omega)
 simp only at hD;subst hD;simp only[KT,M6] at hr;have e5:=cA (i:=i) (by omega);simp only[Ki];generalize (kT k l i).map af++Z=r0 at*;generalize (kT k l (i+1)).map af++Z=r1 at*;simp (maxSteps:=9^9) [ar.l0,hr,h2,e5]
def sI(l:List bq)(Z:List (List T)):Nat×Ob:=(0,⟨0,7,true,false,l.map af++Z⟩)
theorem Ai(k:bq→Int)(l:List bq):kT k l l.length=fc k l:=by simp[kT]
theorem Ag(k:bq→Int)(l:List bq):kT k l 1=l:=by
 cases l with
 |nil=>rfl
 |cons x l=>simp[kT,fc,iB]
def Mi(f:Nat)(Z:List (List T))(k:bq→Int)(l:List bq)(s:Nh):St:={t:=[(0,.c (.row 0 0 0 l.length)),(1,.c (I 0)),(2,.c (I l.length)),(3,.c (.fn f [])),(8,.c (I s.i)),(14,.c (.bool false))],o:=[(0,⟨0,7,true,false,(kT k l s.i).map af++Z⟩)],n:=s.n}
theorem Kj{f:Nat}{k:bq→Int}(m:Nat)(Z:List (List T))(l:List bq)(i n:Nat)(h:l.length≤i):∃n',cz (run M) m ar.l0 (Ki f Z k l ⟨i,n⟩)=some (.exit 0,Mi f Z k l ⟨i,n'⟩):=by
 have h2:¬i<l.length:=by omega
 simp only[Ki,Mi];generalize (kT k l i).map af++Z=r0 at*;simp (maxSteps:=9^9) [ar.l0,h2]
theorem ar.ak(h:ar.k M){f:Nat}{k:bq→Int}(hf:∀x y:bq,run M f [.a (af x),.a (af y)] []=some (.c (I (rV (k x) (k y))),[]))
  (l:List bq) (Z:List (List T)) (hN:l.length≤1048576):run M 492 [.c (.row 0 0 0 l.length),.c (I 0),.c (I l.length),.c (.fn f [])] [sI l Z]=some (.lM [],[sI (fc k l) Z]):=by
 refine au (b:=ar.m) h ⟨l.length+1, ?_⟩;obtain⟨r,hr,⟨⟨i,n'⟩,rfl,hi⟩⟩:=lN (f:=cz (run M) (l.length+1) ar.l0) (Ki f Z k l) (fun s=>1≤s.i∧(s.i≤l.length∨s.i=1)) (fun s=>l.length-s.i)
  (fun r=>∃s',r=(.exit 0,Mi f Z k l s')∧(s'.i=l.length∨l.length=0∧s'.i=1))
  (fun s hs=>by
   obtain⟨i,n⟩:=s;by_cases c:i<l.length
   ·left;obtain⟨n',hh⟩:=IF hf (l.length+1) Z l hN (by omega) ⟨i,n⟩ ⟨hs.1,c⟩;exact⟨_,hh,⟨by simp only;omega,by simp only;omega⟩,by simp only;omega⟩
   ·right;obtain⟨n',hh⟩:=Kj (M:=M) (f:=f) (k:=k) (l.length+1) Z l i n (by omega);simp only at hs;exact⟨_,hh,by simp,_,rfl,by simp only;omega⟩) (l.length+1) ⟨1,2000048⟩ ⟨by simp,by simp⟩ (by simp only;omega)
 have e1:kT k l i=fc k l:=by
  rcases hi with hi|⟨h0,hi⟩
  ·simp only at hi;rw[hi,Ai]
  ·have:l=[]:=aY h0;subst this;simp[kT,fc]
 simp only[Ki,Mi,e1,Ag] at hr;have e2:IntKind.i64.wrap 1=1:=by decide
 have e3:((1:Nat):Int)=1:=rfl;rw[e3] at hr;simp only[sI];generalize l.map af++Z=r0 at*;generalize (fc k l).map af++Z=r1 at*;simp (maxSteps:=9^9) [ba,ar.m,ar.b,aa,hr,e2]
theorem ar.rest(h:ar.k M){f:Nat}(l:List bq)(Z:List (List T))(hN:l.length≤1048576):
  run M 492 [.c (.row 0 0 0 l.length),.c (I l.length),.c (I l.length),.c (.fn f [])] [sI l Z]=some (.lM [],[sI l Z]):=by
 refine au (b:=ar.m) h ⟨1, ?_⟩;have e2:IntKind.i64.wrap ((l.length:Int)+1)=(l.length:Int)+1:=wrap_i64 (by omega) (by omega);have e3:¬(l.length:Int)+1<l.length:=by omega
 simp only[sI];have e4:l.length≤(l.map af++Z).length:=by simp
 generalize l.map af++Z=r0 at*;simp (maxSteps:=9^9) [ba,ar.m,ar.b,aa,fx,ar.l0,e2,e3]
theorem aP.ak(h:aP.k M){f:Nat}{k:bq→Int}(hf:∀x y:bq,run M f [.a (af x),.a (af y)] []=some (.c (I (rV (k x) (k y))),[]))
  (l:List bq) (Z:List (List T)) (hN:l.length≤20):run M 490 [.c (.row 0 0 0 l.length),.c (I l.length),.c (.fn f [])] [sI l Z]=some (.lM [],[sI (fc k l) Z]):=by
 obtain⟨h0,k1⟩:=h;have h1:=ar.ak k1 hf l Z (by omega);have h2:=ar.rest k1 (f:=f) (fc k l) Z (by rw[iK];omega);rw[iK] at h2;refine au (b:=aP.m) h0 ⟨2, ?_⟩;have e1:l.length≤(l.map af++Z).length:=by simp
 have e2:l.length≤((fc k l).map af++Z).length:=by simp[iK]
 simp only[sI] at h1 h2 ⊢;generalize l.map af++Z=r0 at*;generalize (fc k l).map af++Z=r1 at*;by_cases c:l.length=20
 ·generalize l.length=N at*;subst c;simp only[jJ] at h1 h2;have w1:IntKind.i64.wrap 40=40:=by decide
  simp (maxSteps:=9^9) [ba,aP.m,aP.b,aa,h1,h2,w1,fx,aP.l0,aP.l1,e1,e2]
 ·have c1:¬(20:Int)≤l.length:=by omega
  have c2:¬(20:Int)<l.length:=by omega
  have c3:¬20≤l.length:=by omega
  have c4:¬20<l.length:=by omega
  simp (maxSteps:=9^9) [ba,aP.m,aP.b,aa,h1,c1,c2,fx,aP.l0,aP.l1,e1]
theorem aZ.ak(h:aZ.k M){f:Nat}{k:bq→Int}(hf:∀x y:bq,run M f [.a (af x),.a (af y)] []=some (.c (I (rV (k x) (k y))),[]))
  (l:List bq) (Z:List (List T)) (hN:l.length≤20):run M 480 [.c (.row 0 0 0 l.length),.c (.fn f [])] [sI l Z]=some (.lM [],[sI (fc k l) Z]):=by
 have h1:=aP.ak h.2 hf l Z hN;refine au (b:=aZ.m) h.1 ⟨0, ?_⟩;have e1:l.length≤(l.map af++Z).length:=by simp
 simp only[sI] at h1 ⊢;generalize l.map af++Z=r0 at*;generalize (fc k l).map af++Z=r1 at*;simp (maxSteps:=9^9) [ba,aZ.m,aZ.b,aa,h1,e1]
def Eh(f:Nat)(cs:List T)(l:List bq)(i:Nat)(x:Nat):St:={t:=[(0,.c (boxes l)),(1,.c (.fn f [.vp cs 0])),(7,.c (I l.length)),(8,.c (I i))],o:=[],n:=x}
theorem ay.gen(h:ay.k M){f:Nat}{cs:List T}{p:bq→Bool}(hf:∀m,run M f [.a (af m),.c (.vp cs 0)] []=some (.c (.bool (p m)),[]))(l:List bq)(hl:l.length≤1048576):
  run M 200 [.c (boxes l),.c (.fn f [.vp cs 0])] []=some (.c (I (dA (dV (tJ p l) l.length))),[]):=by
 refine au (b:=ay.m) h ⟨l.length+1, ?_⟩;obtain⟨g',hr⟩:=mU (f:=cz (run M) (l.length+1) ay.l0) l.length (tJ p l) (Eh f cs l) j6 pE
  (fun i hi x c=>by
   have hm:=hf l[i];rw[jY p l i hi] at c;rw[c] at hm;have e5:=cA (i:=i) (by omega);simp[Eh,ay.l0,hi,hm,af,e5])
  (fun i hi x c=>by
   have hm:=hf l[i];rw[jY p l i hi] at c;rw[c] at hm;simp[Eh,ay.l0,hi,hm,af,j6];exact⟨⟨[],[],_⟩,rfl⟩)
  (fun x=>by simp[Eh,ay.l0,j6])
 cases hm:dV (tJ p l) l.length with
 |none=>
  simp[Eh,hm,j6] at hr;simp[ba,ay.m,ay.b,aa,hr,dA]
 |some k=>
  simp[Eh,hm,j6] at hr;simp[ba,ay.m,ay.b,aa,hr,dA]
theorem IK{f:Nat}{cs:List T}{g t w u:Int}{nm:List UInt8}{fl tx:List (List T)}(hf:run M f [.a [I g,S nm,I t,I w,I u,.sl false 4 fl,.sl false 1 tx],.c (.vp cs 0)] []=some (.c (.bool false),[]))(m N i j:Nat)(hN:N≤1048576)(rr:List (List T))(hj:j<N)(hi:i<N)(e2:rr.length=N)
  (a1:∀hh,rr[j]'hh=[I g,S nm,I t,I w,I u,.sl false 4 fl,.sl false 1 tx]) (n:Nat) (ri:List T) (a2:rr[i]? =some ri) (a3:ri.length=7):
  ∃n',cz (run M) m aF.l0 {t:=[(0,.c (.row 0 0 0 N)),(1,.c (.fn f [.vp cs 0])),(5,.c (I i)),(6,.c (I j))],o:=[(0,⟨0,7,true,false,rr⟩)],n:=n}=
   some (.normal,{t:=[(0,.c (.row 0 0 0 N)),(1,.c (.fn f [.vp cs 0])),(5,.c (I (i+1:Nat))),(6,.c (I (j+1:Nat)))],o:=[(0,⟨0,7,true,false,rr.set i [I g,S nm,I t,I w,I u,.sl false 4 fl,.sl false 1 tx]⟩)],n:=n'}):=by
 have e5:=cA (i:=i) (by omega);have e6:=cA (i:=j) (by omega)
 match ri,a3 with
 |[r0,r1,r2,r3,r4,r5,r6],_=>
  have a4:∀hh,rr[i]'hh=[r0,r1,r2,r3,r4,r5,r6]:=by
   intro hh;rw[cw hh] at a2;exact Option.some.inj a2
  clear a2;simp (maxSteps:=9^9) [aF.l0,setAt,hf,hj,hi,e2,a1,a4,e5,e6]
theorem IL{f:Nat}{cs:List T}{g t w u:Int}{nm:List UInt8}{fl tx:List (List T)}(hf:run M f [.a [I g,S nm,I t,I w,I u,.sl false 4 fl,.sl false 1 tx],.c (.vp cs 0)] []=some (.c (.bool true),[]))(m N i j:Nat)(hN:N≤1048576)(rr:List (List T))(hj:j<N)(e2:rr.length=N)
  (a1:∀hh,rr[j]'hh=[I g,S nm,I t,I w,I u,.sl false 4 fl,.sl false 1 tx]) (n:Nat):
  ∃n',cz (run M) m aF.l0 {t:=[(0,.c (.row 0 0 0 N)),(1,.c (.fn f [.vp cs 0])),(5,.c (I i)),(6,.c (I j))],o:=[(0,⟨0,7,true,false,rr⟩)],n:=n}=
   some (.normal,{t:=[(0,.c (.row 0 0 0 N)),(1,.c (.fn f [.vp cs 0])),(5,.c (I i)),(6,.c (I (j+1:Nat)))],o:=[(0,⟨0,7,true,false,rr⟩)],n:=n'}):=by
 have e6:=cA (i:=j) (by omega);simp (maxSteps:=9^9) [aF.l0,setAt,hf,hj,e2,a1,e6]
theorem Kl{f:Nat}{cs:List T}(m N i j:Nat)(rr:List (List T))(hj:¬j<N)(n:Nat):
  ∃n',cz (run M) m aF.l0 {t:=[(0,.c (.row 0 0 0 N)),(1,.c (.fn f [.vp cs 0])),(5,.c (I i)),(6,.c (I j))],o:=[(0,⟨0,7,true,false,rr⟩)],n:=n}=
   some (.exit 0,{t:=[(0,.c (.row 0 0 0 N)),(1,.c (.fn f [.vp cs 0])),(5,.c (I i)),(6,.c (I j)),(19,.c (.bool false))],o:=[(0,⟨0,7,true,false,rr⟩)],n:=n'}):=by
 simp (maxSteps:=9^9) [aF.l0,hj]
structure Ms where
 j:Nat
 D:List bq
 n:Nat
def lT(p:bq→Bool)(l:List bq)(j:Nat):List bq:=(l.take j).filter fun m=> !p m
def Km(f:Nat)(cs:List T)(p:bq→Bool)(l:List bq)(s:Ms):St:={t:=[(0,.c (.row 0 0 0 l.length)),(1,.c (.fn f [.vp cs 0])),(5,.c (I (lT p l s.j).length)),(6,.c (I s.j))],o:=[(0,⟨0,7,true,false,s.D.map af⟩)],n:=s.n}
def M9(f:Nat)(cs:List T)(p:bq→Bool)(l:List bq)(s:Ms):St:={t:=[(0,.c (.row 0 0 0 l.length)),(1,.c (.fn f [.vp cs 0])),(5,.c (I (lT p l s.j).length)),(6,.c (I s.j)),(19,.c (.bool false))],o:=[(0,⟨0,7,true,false,s.D.map af⟩)],n:=s.n}
structure LS (p:bq→Bool) (l:List bq) (s:Ms):Prop where
 j:s.j≤l.length
 len:s.D.length=l.length
 tk:s.D.take (lT p l s.j).length=lT p l s.j
 dr:s.D.drop s.j=l.drop s.j
 lt:(lT p l s.j).length<s.j
theorem IJ{f:Nat}{cs:List T}{p:bq→Bool}(hf:∀m,run M f [.a (af m),.c (.vp cs 0)] []=some (.c (.bool (p m)),[]))(k:Nat)(l:List bq)(hN:l.length≤1048576)(s:Ms)(hs:LS p l s):
  (∃s',cz (run M) k aF.l0 (Km f cs p l s)=some (.normal,Km f cs p l s')∧LS p l s'∧l.length-s'.j<l.length-s.j)∨
   (∃r,cz (run M) k aF.l0 (Km f cs p l s)=some r∧r.1≠.normal∧∃s',r=(.exit 0,M9 f cs p l s')∧s'.j=l.length∧LS p l s'):=by
 obtain⟨j,D,n⟩:=s;obtain⟨h1,h2,h3,h4,h5⟩:=hs;simp only at h1 h2 h3 h4 h5;by_cases c:j<l.length
 ·left;have hD:D[j]'(by omega)=l[j]:=by
   have q1:=bA (l:=D) (i:=j) (by omega);have q2:=bA (l:=l) (i:=j) c;rw[h4,q2] at q1;exact(List.cons.inj q1).1.symm
  have hdr:D.drop (j+1)=l.drop (j+1):=by
   have q1:=bA (l:=D) (i:=j) (by omega);have q2:=bA (l:=l) (i:=j) c;rw[h4,q2] at q1;exact(List.cons.inj q1).2.symm
  have a1:∀hh,(D.map af)[j]'hh=af l[j]:=by intro hh;simp[hD]
  have e2:(D.map af).length=l.length:=by simpa using h2
  have hm:=hf l[j];have ek:lT p l (j+1)=lT p l j++if p l[j]=true then [] else [l[j]]:=by
   simp only[lT,hH l j c,List.filter_append];cases q:p l[j]<;>simp[q]
  cases q:p l[j] with
  |true=>
   rw[q] at hm;obtain⟨n',hh⟩:=IL hm k l.length (lT p l j).length j hN (D.map af) c e2 a1 n;rw[q] at ek;simp only[if_true,cR] at ek;refine⟨⟨j+1,D,n'⟩, ?_,⟨by simp only;omega,h2,by simp only[ek];exact h3,hdr,by simp only[ek];omega⟩,by simp only;omega⟩;simp only[Km,ek];exact hh
  |false=>
   rw[q] at hm;have hi:(lT p l j).length<l.length:=by omega
   obtain⟨n',hh⟩:=IK hm k l.length (lT p l j).length j hN (D.map af) c hi e2 a1 n (af (D[(lT p l j).length]'(by omega))) (by rw[iM,cw (by omega)];rfl) rfl;rw[q] at ek;simp only[aB,if_false] at ek;have el:(lT p l (j+1)).length=(lT p l j).length+1:=by rw[ek];simp
   refine⟨⟨j+1,D.set (lT p l j).length l[j],n'⟩, ?_,⟨by simp only;omega,by simpa using h2, ?_, ?_,by simp only[el];omega⟩,by simp only;omega⟩
   ·simp only[Km,el,iE];exact hh
   ·show (D.set (lT p l j).length l[j]).take (lT p l (j+1)).length=lT p l (j+1);rw[el,ek,hH _ _ (by simp;omega),List.take_set_of_le (Nat.le_refl _),h3];simp
   ·simp only;rw[List.drop_set_of_lt (by omega)];exact hdr
 ·right;have hj:j=l.length:=by omega
  obtain⟨n',hh⟩:=Kl (M:=M) (f:=f) (cs:=cs) k l.length (lT p l j).length j (D.map af) c n;exact⟨_,hh,by simp,⟨j,D,n'⟩,rfl,hj,⟨h1,h2,h3,h4,h5⟩⟩
theorem aF.ak(h:aF.k M){f:Nat}{cs:List T}{p:bq→Bool}(hf:∀m,run M f [.a (af m),.c (.vp cs 0)] []=some (.c (.bool (p m)),[]))(l:List bq)(hl:l.length≤1048576):
  run M 478 [.c (.row 0 0 0 l.length),.c (.fn f [.vp cs 0])] [sI l []]=
   some (.c (.row 0 0 0 (l.filter fun m=> !p m).length),[(0,⟨0,7,true,false,(l.filter fun m=> !p m).map af++List.replicate (l.length-(l.filter fun m=> !p m).length) sZ⟩)]):=by
 obtain⟨h0,k1⟩:=h;have h1:=ay.gen k1 hf l hl;refine au (b:=aF.m) h0 ⟨l.length+1, ?_⟩;have e0:(l.map af).length=l.length:=by simp
 cases hq:dV (tJ p l) l.length with
 |none=>
  have hall:(l.filter fun m=> !p m)=l:=List.filter_eq_self.2 fun m hm=>by
   obtain⟨j,hj,rfl⟩:=bQ hm;have:=lZ hq j hj;rw[jY p l j hj] at this;simp[this]
  rw[hall,Nat.sub_self,List.replicate_zero,cR];rw[hq] at h1;simp only[sI,boxes,dA,cR] at h1 ⊢;generalize l.map af=r0 at*;simp (maxSteps:=9^9) [ba,aF.m,aF.b,aa,h1,e0,ab]
 |some k=>
  rw[hq] at h1;obtain⟨hk1,hk2,hk3⟩:=lY hq;rw[jY p l k hk1] at hk2;have ek:lT p l k=l.take k:=by
   refine List.filter_eq_self.2 fun m hm=> ?_
   obtain⟨j,hj,rfl⟩:=bQ hm;have hj':j<k:=by simp at hj;omega
   have:=hk3 j hj';rw[jY p l j (by omega)] at this;simp[this]
  have ek1:lT p l (k+1)=l.take k:=by
   simp only[lT,hH l k hk1,List.filter_append] at ek ⊢;rw[ek];simp[hk2]
  have el:(lT p l (k+1)).length=k:=by rw[ek1];simp;omega
  obtain⟨r,hr,⟨⟨j,D,n'⟩,rfl,hj,hI⟩⟩:=lN (f:=cz (run M) (l.length+1) aF.l0) (Km f cs p l) (LS p l) (fun s=>l.length-s.j)
   (fun r=>∃s',r=(.exit 0,M9 f cs p l s')∧s'.j=l.length∧LS p l s') (fun s hs=>IJ hf (l.length+1) l hl s hs) (l.length+1) ⟨k+1,l,2000160⟩
   ⟨by simp only;omega,rfl,by show l.take (lT p l (k+1)).length=lT p l (k+1);rw[el,ek1],rfl,by simp only[el];omega⟩ (by simp only;omega)
  obtain⟨_,hlen,htk,_,hlt⟩:=hI;simp only at hj hlen htk hlt;subst hj;have ef:lT p l l.length=l.filter fun m=> !p m:=by simp[lT]
  rw[ef] at htk hlt;simp only[Km,M9,el,ef] at hr;have e1:(D.map af).length=l.length:=by simpa using hlen
  have e2:(D.map af).take (l.filter fun m=> !p m).length=(l.filter fun m=> !p m).map af:=by rw[←List.map_take,htk]
  have e3:((l.filter fun m=> !p m).map af).length=(l.filter fun m=> !p m).length:=by simp
  have e5:=cA (i:=k) (by omega);have e6:((k+1:Nat):Int)=(k:Int)+1:=by omega
  have e7:¬(k:Int)= -1:=by omega
  rw[e6] at hr;simp only[sI,boxes,dA,cR] at h1 ⊢;generalize (l.filter fun m=> !p m).map af=rf at*;generalize (l.filter fun m=> !p m).length=nf at*;generalize D.map af=rd at*;generalize l.map af=r0 at*;clear hk2 hk3 ek ek1 el hq ef;generalize l.length=N at*;have e8:nf≤N:=by omega
  have e9:¬N=nf:=by omega
  have e10:¬nf=N:=by omega
  have e11:nf+(N-nf)=N:=by omega
  have e12:¬N-nf=0:=by omega
  have e13:List.drop N rd=[]:=dY (by omega);simp (maxSteps:=9^9) [ba,aF.m,aF.b,aa,h1,hr,e0,e1,e2,e3,e5,e7,e8,e10,e11,e12,e13,ab]
def k_(s:List UInt8)(g:Int):List UInt8:=s.take 6++[120]++if 0<g then(dec g).drop ((dec g).length-5) else []
theorem cB.ak(h:cB.k M)(s:List UInt8)(g:Int)(hs:s.length≤1048576)(hg:g≤9223372036854775807):run M 484 [.c (S s),.c (I g)] []=some (.c (S (k_ s g)),[]):=by
 obtain⟨h0,k1⟩:=h;refine au (b:=cB.m) h0 ⟨0, ?_⟩;unfold k_;have e0:∀x y:Int,x≤y→(if y<x then y else x)=x:=fun x y h=>by rw[if_neg (by omega)]
 have a1:kM .add (bs s) ⟨#[120]⟩=some (S (s++[120])):=bT s [120] (by simp;omega);have a2:kM .add (bs (s.take 6)) ⟨#[120]⟩=some (S (s.take 6++[120])):=bT (s.take 6) [120] (by simp;omega);by_cases c:0<g
 ·have h1:=dh.ak k1 g (by omega) hg;have hl:=Dg (n:=g) (by omega) hg;rw[if_pos c];generalize dec g=d at*;have a3:∀k,kM .add (bs (s++[120])) (bs (d.drop k))=some (S (s++[120]++d.drop k)):=fun k=>bT (s++[120]) (d.drop k) (by simp;omega)
  have a4:∀k,kM .add (bs (s.take 6++[120])) (bs (d.drop k))=some (S (s.take 6++[120]++d.drop k)):=fun k=>bT (s.take 6++[120]) (d.drop k) (by simp;omega)
  have a5:=a3 0;have a6:=a4 0;rw[List.drop_zero] at a5 a6;have ed:d.take d.length=d:=List.take_length;have e1:IntKind.i64.wrap ((d.length:Int)-5)=(d.length:Int)-5:=wrap_i64 (by omega) (by omega);by_cases c1:s.length<6
  ·have c1':(s.length:Int)<6:=by omega
   have t1:s.take 6=s:=ab (by omega);by_cases c2:d.length≤5
   ·have c2':¬(5:Int)<(d.length:Int):=by omega
    have e2:d.length-5=0:=by omega
    simp (maxSteps:=9^9) [ba,cB.m,cB.b,aa,h1,c,c1',c2',t1,e1,e2,max2,min2,a1,a5,ed]
   ·have c2':(5:Int)<(d.length:Int):=by omega
    have e3:(0:Int)≤(d.length:Int)-5:=by omega
    have e4:d.length-5≤d.length:=by omega
    have e7:(5:Int)≤(d.length:Int):=by omega
    have e2:((d.length:Int)-5).toNat=d.length-5:=by omega
    simp (maxSteps:=9^9) [ba,cB.m,cB.b,aa,h1,c,c1',c2',t1,e1,e2,e4,e7,max2,min2,a1,a3,ed]
  ·have c1':¬(s.length:Int)<6:=by omega
   have c6:6≤s.length:=by omega
   by_cases c2:d.length≤5
   ·have c2':¬(5:Int)<(d.length:Int):=by omega
    have e2:d.length-5=0:=by omega
    simp (maxSteps:=9^9) [ba,cB.m,cB.b,aa,h1,c,c1',c6,c2',e1,e2,max2,min2,a2,a6,ed]
   ·have c2':(5:Int)<(d.length:Int):=by omega
    have e3:(0:Int)≤(d.length:Int)-5:=by omega
    have e4:d.length-5≤d.length:=by omega
    have e7:(5:Int)≤(d.length:Int):=by omega
    have e2:((d.length:Int)-5).toNat=d.length-5:=by omega
    simp (maxSteps:=9^9) [ba,cB.m,cB.b,aa,h1,c,c1',c6,c2',e1,e2,e4,e7,max2,min2,a2,a4,ed]
 ·rw[if_neg c];by_cases c1:s.length<6
  ·have c1':(s.length:Int)<6:=by omega
   have t1:s.take 6=s:=ab (by omega);simp (maxSteps:=9^9) [ba,cB.m,cB.b,aa,c,c1',t1,min2,a1]
  ·have c1':¬(s.length:Int)<6:=by omega
   have c6:6≤s.length:=by omega
   simp (maxSteps:=9^9) [ba,cB.m,cB.b,aa,c,c1',min2,a2,c6]
theorem cr.ak(h:cr.k M)(s:List UInt8)(g:Int)(hs:s.length≤1048576)(hg:g≤9223372036854775807):run M 475 [.c (S s),.c (I g)] []=some (.c (S (k_ s g)),[]):=by
 obtain⟨h0,k1⟩:=h;refine au (b:=cr.m) h0 ⟨0, ?_⟩;unfold k_;obtain⟨t,ht,hl6,hcase⟩:∃t,t=s.take 6∧t.length≤6∧((6<s.length)∨(¬6<s.length∧t=s)):=⟨s.take 6,rfl,by simp;omega,by
  by_cases c:6<s.length
  ·exact .inl c
  ·exact .inr ⟨c,ab (by omega)⟩⟩
 rw[←ht];have a1:kM .add (bs t) ⟨#[120]⟩=some (S (t++[120])):=bT t [120] (by simp;omega);have a0:kM .add (bs (t++[120])) ⟨#[]⟩=some (S (t++[120])):=by
  have:=bT (t++[120]) [] (by simp;omega);rw[cR] at this;exact this
 by_cases c:0<g
 ·have h1:=cQ.ak k1 g (by omega) hg;have hl:=Dg (n:=g) (by omega) hg;rw[if_pos c];generalize dec g=d at*;have e1:IntKind.i64.wrap ((d.length:Int)-5)=(d.length:Int)-5:=wrap_i64 (by omega) (by omega);have a3:∀k,kM .add (bs (t++[120])) (bs (d.drop k))=some (S (t++[120]++d.drop k)):=fun k=>bT (t++[120]) (d.drop k) (by simp;omega)
  have a5:=a3 0;rw[List.drop_zero] at a5;have ed:d.take d.length=d:=List.take_length;rcases hcase with q|⟨q,q2⟩
  ·have q1:6≤s.length:=by omega
   have q3:(6:Int)<(s.length:Int):=by omega
   by_cases c2:d.length≤5
   ·have c2':¬(5:Int)<(d.length:Int):=by omega
    have c3:¬5<d.length:=by omega
    have e2:d.length-5=0:=by omega
    simp (maxSteps:=9^9) [ba,cr.m,cr.b,aa,h1,c,q1,q3,←ht,c2',e2,a1,a5]
   ·have c2':(5:Int)<(d.length:Int):=by omega
    have c3:5<d.length:=by omega
    have e2:((d.length:Int)-5).toNat=d.length-5:=by omega
    have e4:d.length-5≤d.length:=by omega
    have e7:(5:Int)≤(d.length:Int):=by omega
    simp (maxSteps:=9^9) [ba,cr.m,cr.b,aa,h1,c,q1,q3,←ht,c2',e1,e2,e4,e7,a1,a3,ed]
  ·subst q2;have q3:¬(6:Int)<(t.length:Int):=by omega
   by_cases c2:d.length≤5
   ·have c2':¬(5:Int)<(d.length:Int):=by omega
    have c3:¬5<d.length:=by omega
    have e2:d.length-5=0:=by omega
    simp (maxSteps:=9^9) [ba,cr.m,cr.b,aa,h1,c,q3,c2',e2,a1,a5]
   ·have c2':(5:Int)<(d.length:Int):=by omega
    have c3:5<d.length:=by omega
    have e2:((d.length:Int)-5).toNat=d.length-5:=by omega
    have e4:d.length-5≤d.length:=by omega
    have e7:(5:Int)≤(d.length:Int):=by omega
    simp (maxSteps:=9^9) [ba,cr.m,cr.b,aa,h1,c,q3,c2',e1,e2,e4,e7,a1,a3,ed]
 ·rw[if_neg c];rcases hcase with q|⟨q,q2⟩
  ·have q1:6≤s.length:=by omega
   have q3:(6:Int)<(s.length:Int):=by omega
   simp (maxSteps:=9^9) [ba,cr.m,cr.b,aa,c,q1,q3,←ht,a1,a0]
  ·subst q2;have q3:¬(6:Int)<(t.length:Int):=by omega
   simp (maxSteps:=9^9) [ba,cr.m,cr.b,aa,c,q3,a1,a0]
def mI(l:List bq)(g:Int):Option Nat:=dV (tJ (fun b:bq=>decide (b.gid=g)) l) l.length
def kY(l:List bq)(g:Int):Option bq:=l.find? fun b=>decide (b.gid=g)
theorem jT{l:List bq}{g:Int}{k:Nat}(h:mI l g=some k):∃hk:k<l.length,kY l g=some l[k]:=by
 obtain⟨h1,h2,h3⟩:=lY h;refine⟨h1, ?_⟩;unfold kY;rw[List.find?_eq_some_iff_getElem];rw[jY _ _ _ h1] at h2;refine⟨h2,k,h1,rfl,fun j hj=> ?_⟩;have:=h3 j hj;rw[jY _ _ _ (by omega)] at this;simp only[this,Bool.not_false]
theorem pd{l:List bq}{g:Int}(h:mI l g=none):kY l g=none:=by
 unfold kY;rw[List.find?_eq_none];intro b hb;obtain⟨j,hj,rfl⟩:=bQ hb;have:=lZ h j hj;rw[jY _ _ _ hj] at this;simp only[this];decide
theorem eH.ak(h:eH.k M)(b:bq)(g:Int):run M 477 [.a (af b),.c (.vp [I g] 0)] []=some (.c (.bool (decide (b.gid=g))),[]):=by
 refine au (b:=eH.m) h ⟨0, ?_⟩;simp (maxSteps:=9^9) [ba,eH.m,eH.b,aa,af]
theorem eI.ak(h:eI.k M)(l:List bq)(g:Int)(hl:l.length≤1048576):run M 476 [.c (boxes l),.c (I g)] []=some (.c (I (dA (mI l g))),[]):=by
 have h1:=ay.gen h.2.1 (fun b=>eH.ak h.2.2 b g) l hl;refine au (b:=eI.m) h.1 ⟨0, ?_⟩;unfold mI;simp only[boxes] at h1 ⊢;generalize l.map af=r at*;simp (maxSteps:=9^9) [ba,eI.m,eI.b,aa,h1]
theorem fj.ak(h:fj.k M)(b:bq)(G:List Int)(hG:G.length≤4194304):run M 479 [.a (af b),.c (.vp [ints G] 0)] []=some (.c (.bool (decide (b.gid∈G))),[]):=by
 have h1:=aI.ak h.2 G b.gid (by omega);refine au (b:=fj.m) h.1 ⟨0, ?_⟩;simp only[ints] at h1 ⊢;generalize aA G=g at*;simp (maxSteps:=9^9) [ba,fj.m,fj.b,aa,h1,af]
theorem fh.ak(h:fh.k M)(y x:bq):run M 483 [.a (af y),.c (.vp (af x) 0)] []=some (.c (.bool (decide (y.name=x.name))),[]):=by
 refine au (b:=fh.m) h ⟨0, ?_⟩;simp (maxSteps:=9^9) [ba,fh.m,fh.b,aa,af]
theorem bd.ak(h:bd.k M){f:Nat}{cs:List T}{p:bq→Bool}(hf:∀m,run M f [.a (af m),.c (.vp cs 0)] []=some (.c (.bool (p m)),[]))(l:List bq)(hl:l.length≤1048576):
  run M 482 [.c (boxes l),.c (.fn f [.vp cs 0])] []=some (.c (.bool (l.any p)),[]):=by
 have h1:=ay.gen h.2 hf l hl;have e:(decide ((0:Int)≤dA (dV (tJ p l) l.length)))=l.any p:=by
  cases q:dV (tJ p l) l.length with
  |none=>
   have hn:=lZ q;have:l.any p=false:=by
    rw[List.any_eq_false];intro b hb;obtain⟨j,hj,rfl⟩:=bQ hb;have:=hn j hj;rw[jY _ _ _ hj] at this;simp[this]
   rw[this];decide
  |some k=>
   obtain⟨h1,h2,_⟩:=lY q;rw[jY _ _ _ h1] at h2;have:l.any p=true:=List.any_eq_true.2 ⟨_,ax h1,h2⟩;rw[this];exact decide_eq_true (Int.natCast_nonneg k)
 refine au (b:=bd.m) h.1 ⟨0, ?_⟩;rw[←e];simp only[boxes] at h1 ⊢;generalize l.map af=r at*;simp (maxSteps:=9^9) [ba,bd.m,bd.b,aa,h1]
def KH(l:List bq)(g:Int)(i:Nat)(x:Nat):St:={t:=[(0,.c (boxes l)),(1,.c (I g)),(5,.c (I i))],o:=[],n:=x}
theorem fU.ak(h:fU.k M)(l:List bq)(g:Int)(hl:l.length≤1048576):run M 474 [.c (boxes l),.c (I g)] []=some (.c (I (dA (mI l g))),[]):=by
 refine au (b:=fU.m) h ⟨l.length+1, ?_⟩;obtain⟨g',hr⟩:=mU (f:=cz (run M) (l.length+1) fU.l0) l.length (tJ (fun b:bq=>decide (b.gid=g)) l) (KH l g) j6 pE
  (fun i hi x c=>by
   rw[jY _ _ _ hi] at c;simp only[decide_eq_false_iff_not] at c;have e5:=cA (i:=i) (by omega);simp[KH,fU.l0,hi,c,af,e5])
  (fun i hi x c=>by
   rw[jY _ _ _ hi] at c;simp only[decide_eq_true_eq] at c;simp[KH,fU.l0,hi,c,af,j6];exact⟨⟨[],[],_⟩,rfl⟩)
  (fun x=>by simp[KH,fU.l0,j6])
 unfold mI;cases hm:dV (tJ (fun b:bq=>decide (b.gid=g)) l) l.length with
 |none=>
  simp[KH,hm,j6] at hr;simp[ba,fU.m,fU.b,aa,hr,dA]
 |some k=>
  simp[KH,hm,j6] at hr;simp[ba,fU.m,fU.b,aa,hr,dA]
structure Nj where
 i:Nat
 rows:List (List T)
 v:Nat
 vc:Nat
 ic:Nat
 q:Int
 n:Nat
theorem Nj.ex{p:Nj→Prop}:(∃s,p s)↔∃i rows v vc ic q n,p ⟨i,rows,v,vc,ic,q,n⟩:=⟨fun⟨⟨i,rows,v,vc,ic,q,n⟩,h⟩=>⟨i,rows,v,vc,ic,q,n,h⟩,fun⟨i,rows,v,vc,ic,q,n,h⟩=>⟨⟨i,rows,v,vc,ic,q,n⟩,h⟩⟩
theorem cF.ak(h:cF.k M)(l:List mJ)(n t w:Int)(hl:l.length≤1048576):run M 182 [.c (jf l),.c (I n),.a [I t,I w]] []=some (.c (.sl true 3 ((mM l n t w).map aO)),[]):=by
 obtain⟨h0,k1,k2,k3,k4⟩:=h;have h1:=fF.ak k1 n;have h2:=dx.ak k2 l hl;have h3:=gv.ak k3 l hl;refine au (b:=cF.m) h0 ⟨4, ?_⟩;have e7:(l.map aO).length=l.length:=by simp
 have e8:(l.map aO).all (fun r=>r.all T.scalar)=true:=by simp[T.scalar]
 unfold mM;simp only[jf] at*;cases c1:mG l
 ·simp only[aB,false_and,if_false];generalize l.map aO=r at*;simp (maxSteps:=9^9) [ba,cF.m,cF.b,aa,h2,h3,c1,e7,e8,ab]
 cases c2:kx 0 n 7
 ·simp only[aB,and_false,if_false];generalize l.map aO=r at*;simp (maxSteps:=9^9) [ba,cF.m,cF.b,aa,h1,h2,h3,c1,c2,e7,e8,ab]
 have hl3:=(qS c1).1;obtain⟨g,hr⟩:=kq (f:=cz (run M) 4 cF.l0) l.length (Kz l n t w) 0 (MD l n t w)
  (fun i hi x=>cF.Ju k4 l n t w 4 i hl3 hi x)
  (fun x=>by
   obtain⟨v,u,x⟩:=x;simp only[Kz,MD,aE];generalize (kC l n t w l.length).map aO=rr;simp (maxSteps:=9^9) [cF.l0])
 have e9:((kC l n t w l.length).map aO).length=l.length:=by simp[sd]
 simp only[true_and,if_true];rw[←yB];simp only[Kz,MD,wM] at hr;generalize (kC l n t w l.length).map aO=rr at*;generalize l.map aO=r at*;simp[hl3] at hr;simp (maxSteps:=9^9) [ba,cF.m,cF.b,aa,hr,h1,h2,h3,c1,c2,e7,e8,e9,hl3,ab]
def Ky(l:List mJ)(n t w:Int)(i:Nat)(x:Nat×Nat×Nat):St:={t:=[(1,.c (I n)),(5,.c (.ptr 5 x.1 0 0)),(7,.c (.row 11100 x.2.1 0 l.length)),(8,.c (I i))],o:=[(5,⟨x.1,2,true,true,[[I t,I w]]⟩),(11100,⟨x.2.1,3,true,false,(kC l n t w i).map aO⟩)],n:=x.2.2}
def MC(l:List mJ)(n t w:Int)(x:Nat×Nat×Nat):St:={t:=[(1,.c (I n)),(5,.c (.ptr 5 x.1 0 0)),(7,.c (.row 11100 x.2.1 0 l.length)),(8,.c (I l.length)),(24,.c (.bool false))],o:=[(5,⟨x.1,2,true,true,[[I t,I w]]⟩),(11100,⟨x.2.1,3,true,false,(kC l n t w l.length).map aO⟩)],n:=x.2.2}
theorem cE.Ju(k:iY.k M)(l:List mJ)(n t w:Int)(K i:Nat)(hn:0≤n)(hl:l.length=3)(hi:i<l.length)(x:Nat×Nat×Nat):
  ∃y,cz (run M) K cE.l0 (Ky l n t w i x)=some (.normal,Ky l n t w (i+1) y):=by
 obtain⟨v,u,x⟩:=x;have e5:=cA (i:=i) (by omega);have h1:=iY.ak k l[i] (nQ n i) t w;have hlen:((kC l n t w i).map aO).length=l.length:=by simp[sd]
 have hi2:i<((kC l n t w i).map aO).length:=by omega
 have hat:((kC l n t w i).map aO)[i]'hi2=aO l[i]:=by rw[fJ,Al]
 have hset:(kC l n t w (i+1)).map aO=((kC l n t w i).map aO).set i (aO (pK n t w i l[i])):=by rw[wN _ _ _ _ _ hi,iE]
 have hmin:Min.min i 64=i:=by omega
 have hu:IntKind.u64.wrap (i:Int)=i:=by unfold IntKind.wrap;simp[IntKind.bits,IntKind.signed];omega
 have hdiv:0≤n.fdiv ((2^i:Nat):Int):=Int.fdiv_nonneg hn (Int.natCast_nonneg _);have hbit:(n.fdiv ((2^i:Nat):Int)).tmod 2=nQ n i:=by
  unfold nQ;exact Int.tmod_eq_emod_of_nonneg hdiv
 have hbit2:(n.fdiv (2^i)).tmod 2=nQ n i:=by rw[←hbit];norm_cast
 have hii:(i:Int)<3:=by omega
 have h3:i<3:=by omega
 have hng:¬(i:Int)<0:=by omega
 simp only[Ky,hset,pK,aE];generalize (kC l n t w i).map aO=rr at*;simp only[aO] at h1 hat;by_cases c:l[i].val=nQ n i
 ·rw[if_pos c];have hself:rr.set i [I l[i].val,I l[i].time,I l[i].eJ]=rr:=by
   apply List.ext_getElem?;intro j;rw[List.getElem?_set];split
   ·rename_i hj;subst hj;simp[hi2,hat]
   ·rfl
  rw[hself];simp (maxSteps:=9^9) [cE.l0,aa,hl,hlen,hat,e5,hu,hmin,hbit2,hii,h3,hng,c,IntKind.bits]
 ·rw[if_neg c];simp (maxSteps:=9^9) [cE.l0,aa,setAt,hl,hlen,hat,e5,hu,hmin,hbit2,hii,h3,hng,c,h1,aO,IntKind.bits]
theorem cE.ak(h:cE.k M)(l:List mJ)(n t w:Int)(hl:l.length≤1048576):run M 184 [.c (jf l),.c (I n),.a [I t,I w]] []=some (.c (.sl true 3 ((mM l n t w).map aO)),[]):=by
 obtain⟨h0,k1,k3,k2,k4⟩:=h;have h1:=bE.kx k1 n 0 7;have h2:=dw.ak k2 l hl;have h3:=gT.ak k3 l hl;refine au (b:=cE.m) h0 ⟨4, ?_⟩;have e7:(l.map aO).length=l.length:=by simp
 have e8:(l.map aO).all (fun r=>r.all T.scalar)=true:=by simp[T.scalar]
 unfold mM;simp only[jf] at*;cases c1:mG l
 ·simp only[aB,false_and,if_false];generalize l.map aO=r at*;simp (maxSteps:=9^9) [ba,cE.m,cE.b,aa,h2,h3,c1,e7,e8,ab]
 cases c2:kx 0 n 7
 ·simp only[aB,and_false,if_false];generalize l.map aO=r at*;simp (maxSteps:=9^9) [ba,cE.m,cE.b,aa,h1,h2,h3,c1,c2,e7,e8,ab]
 have hl3:=(qS c1).1;obtain⟨g,hr⟩:=kq (f:=cz (run M) 4 cE.l0) l.length (Ky l n t w) 0 (MC l n t w)
  (fun i hi x=>cE.Ju k4 l n t w 4 i (lE.1 c2).1 hl3 hi x)
  (fun x=>by
   obtain⟨v,u,x⟩:=x;simp only[Ky,MC,aE];generalize (kC l n t w l.length).map aO=rr;simp (maxSteps:=9^9) [cE.l0,aa])
 have e9:((kC l n t w l.length).map aO).length=l.length:=by simp[sd]
 simp only[true_and,if_true];rw[←yB];simp only[Ky,MC,wM] at hr;generalize (kC l n t w l.length).map aO=rr at*;generalize l.map aO=r at*;simp[hl3] at hr;simp (maxSteps:=9^9) [ba,cE.m,cE.b,aa,hr,h1,h2,h3,c1,c2,e7,e8,e9,hl3,ab]
def kR(b:bq)(g n t w:Int):bq×Bool:=match fX b.ae g with
 |none=>(b,false)
 |some k=>match b.ae[k]? with
  |none=>(b,false)
  |some m=>if fA b=true∧kx 0 n 7=true∧lA t w=true then({b with ae:=b.ae.set k {m with flags:=mM m.flags n t w}},true) else(b,false)
theorem tM{l:List bj}{g:Int}{k:Nat}(h:fX l g=some k):k<l.length:=uV l g _ _ _ h
theorem dF.ak(h:dF.k M)(b:bq)(hb:iw b)(g n t w:Int):run M 83 [.a (af b),.c (I g),.c (I n),.a [I t,I w]] []=some (.lM [.a (b7 (kR b g n t w).1),.c (.bool (kR b g n t w).2)],[]):=by
 obtain⟨h0,k1,k2,k3,k4,k5,k6⟩:=h;have h1:=cy.ak k1 b g hb.m;have h2:=bC.ak k2 b hb.ok.1 hb.ok.2.1 hb.ok.2.2.1 hb.ok.2.2.2;have h3:=fF.ak k3 n;have h4:=cm.ak k4 b hb;have h5:=gn.ak k5 t w;refine au (b:=dF.m) h0 ⟨0, ?_⟩;have e7:(b.ae.map ah).length=b.ae.length:=by simp
 have e8:=aS b.gone;unfold kR;cases hk:fX b.ae g with
 |none=>
  rw[hk] at h1;simp only[dA] at h1;simp only[af,b7,ae,ints] at*;generalize fA b=ok at*;generalize b.ae.map ah=rm at*;generalize aA b.gone=rg at*;cases ok<;>simp (maxSteps:=9^9) [ba,dF.m,dF.b,aa,setAt,h1,h2,h4,e7,e8,ab]
 |some k=>
  have hlt:=tM hk;rw[hk] at h1;simp only[dA] at h1;have h6:=cF.ak k6 b.ae[k].flags n t w (hb.f _ (ax hlt));have hat:(b.ae.map ah)[k]'(by rw[e7];exact hlt)=[I b.ae[k].gid,I b.ae[k].uid,jf b.ae[k].flags,S b.ae[k].text]:=by rw[fJ]
  have hset:(b.ae.set k {b.ae[k] with flags:=mM b.ae[k].flags n t w}).map ah=(b.ae.map ah).set k [I b.ae[k].gid,I b.ae[k].uid,.sl false 3 ((mM b.ae[k].flags n t w).map aO),S b.ae[k].text]:=by rw[iE]
  have hng:¬(k:Int)<0:=by omega
  simp only[cw hlt];cases c1:fA b
  ·rw[c1] at h2;simp only[aB,false_and,if_false];simp only[af,b7,ae,ints] at*;generalize b.ae.map ah=rm at*;generalize aA b.gone=rg at*;simp (maxSteps:=9^9) [ba,dF.m,dF.b,aa,setAt,h1,h2,h4,e7,e8,ab]
  rw[c1] at h2;cases c2:kx 0 n 7
  ·rw[c2] at h3;simp only[aB,false_and,and_false,if_false];simp only[af,b7,ae,ints] at*;generalize b.ae.map ah=rm at*;generalize aA b.gone=rg at*;simp (maxSteps:=9^9) [ba,dF.m,dF.b,aa,setAt,h1,h2,h3,h4,e7,e8,hng,ab]
  rw[c2] at h3;cases c3:lA t w
  ·rw[c3] at h5;simp only[aB,and_false,if_false];simp only[af,b7,ae,ints] at*;generalize b.ae.map ah=rm at*;generalize aA b.gone=rg at*;simp (maxSteps:=9^9) [ba,dF.m,dF.b,aa,setAt,h1,h2,h3,h4,h5,e7,e8,hng,ab]
  rw[c3] at h5;simp only[and_self,if_true];simp only[af,b7,ae,ints,hset] at*;generalize b.ae.map ah=rm at*;generalize aA b.gone=rg at*;simp (maxSteps:=9^9) [ba,dF.m,dF.b,aa,setAt,h1,h2,h3,h4,h5,h6,e7,e8,hng,hlt,hat,ab]
theorem dD.ak(h:dD.k M)(b:bq)(hb:iw b)(g n t w:Int):run M 84 [.a (af b),.c (I g),.c (I n),.a [I t,I w]] []=some (.lM [.a (b7 (kR b g n t w).1),.c (.bool (kR b g n t w).2)],[]):=by
 obtain⟨h0,k2,k1,k3,k4,k5,k6⟩:=h;have h1:=bI.ak k1 b g hb.m;have h2:=br.ak k2 b hb.ok.1 hb.ok.2.1 hb.ok.2.2.1 hb.ok.2.2.2;have h3:=bE.kx k3 n 0 7;have h4:=bX.ak k4 b hb;have h5:=gi.ak k5 t w;refine au (b:=dD.m) h0 ⟨0, ?_⟩;have e7:(b.ae.map ah).length=b.ae.length:=by simp
 have e8:=aS b.gone;unfold kR;cases hk:fX b.ae g with
 |none=>
  rw[hk] at h1;simp only[dA] at h1;simp only[af,b7,ae,ints] at*;generalize fA b=ok at*;generalize b.ae.map ah=rm at*;generalize aA b.gone=rg at*;cases ok<;>simp (maxSteps:=9^9) [ba,dD.m,dD.b,aa,setAt,h1,h2,h4,e7,e8,ab]
 |some k=>
  have hlt:=tM hk;rw[hk] at h1;simp only[dA] at h1;have h6:=cE.ak k6 b.ae[k].flags n t w (hb.f _ (ax hlt));have hat:(b.ae.map ah)[k]'(by rw[e7];exact hlt)=[I b.ae[k].gid,I b.ae[k].uid,jf b.ae[k].flags,S b.ae[k].text]:=by rw[fJ]
  have hset:(b.ae.set k {b.ae[k] with flags:=mM b.ae[k].flags n t w}).map ah=(b.ae.map ah).set k [I b.ae[k].gid,I b.ae[k].uid,.sl false 3 ((mM b.ae[k].flags n t w).map aO),S b.ae[k].text]:=by rw[iE]
  have hng:¬(k:Int)<0:=by omega
  simp only[cw hlt];cases c1:fA b
  ·rw[c1] at h2;simp only[aB,false_and,if_false];simp only[af,b7,ae,ints] at*;generalize b.ae.map ah=rm at*;generalize aA b.gone=rg at*;simp (maxSteps:=9^9) [ba,dD.m,dD.b,aa,setAt,h1,h2,h4,e7,e8,ab]
  rw[c1] at h2;cases c2:kx 0 n 7
  ·rw[c2] at h3;simp only[aB,false_and,and_false,if_false];simp only[af,b7,ae,ints] at*;generalize b.ae.map ah=rm at*;generalize aA b.gone=rg at*;simp (maxSteps:=9^9) [ba,dD.m,dD.b,aa,setAt,h1,h2,h3,h4,e7,e8,hng,ab]
  rw[c2] at h3;cases c3:lA t w
  ·rw[c3] at h5;simp only[aB,and_false,if_false];simp only[af,b7,ae,ints] at*;generalize b.ae.map ah=rm at*;generalize aA b.gone=rg at*;simp (maxSteps:=9^9) [ba,dD.m,dD.b,aa,setAt,h1,h2,h3,h4,h5,e7,e8,hng,ab]
  rw[c3] at h5;simp only[and_self,if_true];simp only[af,b7,ae,ints,hset] at*;generalize b.ae.map ah=rm at*;generalize aA b.gone=rg at*;simp (maxSteps:=9^9) [ba,dD.m,dD.b,aa,setAt,h1,h2,h3,h4,h5,h6,e7,e8,hng,hlt,hat,ab]
def lO(b:bq)(g f:Int)(text:List UInt8)(t w:Int):bq×Bool:=
 if fA b=true∧fX b.ae g=none∧¬g∈b.gone∧kx 0 f 7=true∧fA {b with ae:=b.ae++[⟨g,b.next,jR f t w,text⟩],next:=b.next+1}=true
 then({b with ae:=b.ae++[⟨g,b.next,jR f t w,text⟩],next:=b.next+1},true) else(b,false)
theorem dU.ak(h:dU.k M)(b:bq)(hb:iw b)(g f:Int)(text:List UInt8)(t w:Int):
  run M 70 [.a (af b),.c (I g),.c (I f),.c (S text),.a [I t,I w]] []=some (.lM [.a (b7 (lO b g f text t w).1),.c (.bool (lO b g f text t w).2)],[]):=by
 obtain⟨h0,k1,k2,k3,k4,k5,k6⟩:=h;have h1:=cy.ak k1 b g hb.m;have h2:=bC.ak k2 b hb.ok.1 hb.ok.2.1 hb.ok.2.2.1 hb.ok.2.2.2;have h3:=fF.ak k3 f;have h4:=cm.ak k4 b hb;have h5:=aI.ak k5 b.gone g (by have:=hb.g;omega);have h6:=fZ.ak k6 f t w;refine au (b:=dU.m) h0 ⟨0, ?_⟩;have e7:(b.ae.map ah).length=b.ae.length:=by simp
 have e8:=aS b.gone;unfold lO;cases c1:fA b
 ·rw[c1] at h2;simp only[aB,false_and,if_false];simp only[af,b7,ae,ints] at*;generalize b.ae.map ah=rm at*;generalize aA b.gone=rg at*;simp (maxSteps:=9^9) [ba,dU.m,dU.b,aa,setAt,h2,h4,e7,e8,ab]
 rw[c1] at h2;cases hk:fX b.ae g with
 |some k=>
  have hge:(0:Int)≤k:=by omega
  rw[hk] at h1;simp only[dA] at h1;simp only[reduceCtorEq,false_and,and_false,if_false];simp only[af,b7,ae,ints] at*;generalize b.ae.map ah=rm at*;generalize aA b.gone=rg at*;simp (maxSteps:=9^9) [ba,dU.m,dU.b,aa,setAt,h1,h2,h4,e7,e8,hge,ab]
 |none=>
 rw[hk] at h1;simp only[dA] at h1;by_cases c2:g∈b.gone
 ·rw[decide_eq_true c2] at h5;simp only[c2,not_true_eq_false,false_and,and_false,if_false];simp only[af,b7,ae,ints] at*;generalize b.ae.map ah=rm at*;generalize aA b.gone=rg at*;simp (maxSteps:=9^9) [ba,dU.m,dU.b,aa,setAt,h1,h2,h4,h5,e7,e8,ab]
 rw[decide_eq_false c2] at h5;cases c3:kx 0 f 7
 ·rw[c3] at h3;simp only[aB,false_and,and_false,if_false];simp only[af,b7,ae,ints] at*;generalize b.ae.map ah=rm at*;generalize aA b.gone=rg at*;simp (maxSteps:=9^9) [ba,dU.m,dU.b,aa,setAt,h1,h2,h3,h4,h5,e7,e8,ab]
 rw[c3] at h3;have hnx:b.next≤1000000000∧0≤b.next:=by
  have:=(j5 c1).2.2.2.2.1;exact⟨this.2,this.1⟩
 have hml:=(j5 c1).2.2.2.2.2.1;have e9:IntKind.i64.wrap (b.next+1)=b.next+1:=wrap_i64 (by omega) (by omega);have hout:iw {b with ae:=b.ae++[⟨g,b.next,jR f t w,text⟩],next:=b.next+1}:=by
  refine⟨by simp;omega,hb.g,hb.n,fun m hm=> ?_⟩;rcases List.mem_append.1 hm with hm|hm
  ·exact hb.f m hm
  ·simp only[iV] at hm;subst hm;simp[jR]
 have h7:=bC.ak k2 _ hout.ok.1 hout.ok.2.1 hout.ok.2.2.1 hout.ok.2.2.2;have e10:(b.ae++[(⟨g,b.next,jR f t w,text⟩:bj)]).map ah=b.ae.map ah++[[I g,I b.next,.sl false 3 ((jR f t w).map aO),S text]]:=by simp
 have e11:b.ae.length+1≤4294967296:=by omega
 simp only[af,ae,e10] at h7;simp only[c2,not_false_eq_true,true_and];cases c4:fA {b with ae:=b.ae++[⟨g,b.next,jR f t w,text⟩],next:=b.next+1}
 ·rw[c4] at h7;simp only[aB,if_false];simp only[af,b7,ae,ints] at*;generalize (jR f t w).map aO=rf at*;generalize b.ae.map ah=rm at*;generalize aA b.gone=rg at*;simp (maxSteps:=9^9) [ba,dU.m,dU.b,aa,setAt,h1,h2,h3,h4,h5,h6,h7,e7,e8,e9,e11,ab]
 ·rw[c4] at h7;simp only[if_true];simp only[af,b7,ae,ints,e10] at*;generalize (jR f t w).map aO=rf at*;generalize b.ae.map ah=rm at*;generalize aA b.gone=rg at*;simp (maxSteps:=9^9) [ba,dU.m,dU.b,aa,setAt,h1,h2,h3,h4,h5,h6,h7,e7,e8,e9,e11,ab]
theorem dS.ak(h:dS.k M)(b:bq)(hb:iw b)(g f:Int)(text:List UInt8)(t w:Int):
  run M 81 [.a (af b),.c (I g),.c (I f),.c (S text),.a [I t,I w]] []=some (.lM [.a (b7 (lO b g f text t w).1),.c (.bool (lO b g f text t w).2)],[]):=by
 obtain⟨h0,k2,k1,k3,k5,k4,k6⟩:=h;have h1:=bI.ak k1 b g hb.m;have h2:=br.ak k2 b hb.ok.1 hb.ok.2.1 hb.ok.2.2.1 hb.ok.2.2.2;have h3:=bE.kx k3 f 0 7;have h4:=bX.ak k4 b hb;have h5:=bf.ak k5 b.gone g (by have:=hb.g;omega);have h6:=fW.ak k6 f t w;refine au (b:=dS.m) h0 ⟨0, ?_⟩;have e7:(b.ae.map ah).length=b.ae.length:=by simp
 have e8:=aS b.gone;unfold lO;cases c1:fA b
 ·rw[c1] at h2;simp only[aB,false_and,if_false];simp only[af,b7,ae,ints] at*;generalize b.ae.map ah=rm at*;generalize aA b.gone=rg at*;simp (maxSteps:=9^9) [ba,dS.m,dS.b,aa,setAt,h2,h4,e7,e8,ab]
 rw[c1] at h2;cases hk:fX b.ae g with
 |some k=>
  have hge:(0:Int)≤k:=by omega
  rw[hk] at h1;simp only[dA] at h1;simp only[reduceCtorEq,false_and,and_false,if_false];simp only[af,b7,ae,ints] at*;generalize b.ae.map ah=rm at*;generalize aA b.gone=rg at*;simp (maxSteps:=9^9) [ba,dS.m,dS.b,aa,setAt,h1,h2,h4,e7,e8,hge,ab]
 |none=>
 rw[hk] at h1;simp only[dA] at h1;by_cases c2:g∈b.gone
 ·rw[decide_eq_true c2] at h5;simp only[c2,not_true_eq_false,false_and,and_false,if_false];simp only[af,b7,ae,ints] at*;generalize b.ae.map ah=rm at*;generalize aA b.gone=rg at*;simp (maxSteps:=9^9) [ba,dS.m,dS.b,aa,setAt,h1,h2,h4,h5,e7,e8,ab]
 rw[decide_eq_false c2] at h5;cases c3:kx 0 f 7
 ·rw[c3] at h3;simp only[aB,false_and,and_false,if_false];simp only[af,b7,ae,ints] at*;generalize b.ae.map ah=rm at*;generalize aA b.gone=rg at*;simp (maxSteps:=9^9) [ba,dS.m,dS.b,aa,setAt,h1,h2,h3,h4,h5,e7,e8,ab]
 rw[c3] at h3;have hnx:b.next≤1000000000∧0≤b.next:=by
  have:=(j5 c1).2.2.2.2.1;exact⟨this.2,this.1⟩
 have hml:=(j5 c1).2.2.2.2.2.1;have e9:IntKind.i64.wrap (b.next+1)=b.next+1:=wrap_i64 (by omega) (by omega);have hout:iw {b with ae:=b.ae++[⟨g,b.next,jR f t w,text⟩],next:=b.next+1}:=by
  refine⟨by simp;omega,hb.g,hb.n,fun m hm=> ?_⟩;rcases List.mem_append.1 hm with hm|hm
  ·exact hb.f m hm
  ·simp only[iV] at hm;subst hm;simp[jR]
 have h7:=br.ak k2 _ hout.ok.1 hout.ok.2.1 hout.ok.2.2.1 hout.ok.2.2.2;have e10:(b.ae++[(⟨g,b.next,jR f t w,text⟩:bj)]).map ah=b.ae.map ah++[[I g,I b.next,.sl false 3 ((jR f t w).map aO),S text]]:=by simp
 have e11:b.ae.length+1≤4294967296:=by omega
 simp only[af,ae,e10] at h7;simp only[c2,not_false_eq_true,true_and];cases c4:fA {b with ae:=b.ae++[⟨g,b.next,jR f t w,text⟩],next:=b.next+1}
 ·rw[c4] at h7;simp only[aB,if_false];simp only[af,b7,ae,ints] at*;generalize (jR f t w).map aO=rf at*;generalize b.ae.map ah=rm at*;generalize aA b.gone=rg at*;simp (maxSteps:=9^9) [ba,dS.m,dS.b,aa,setAt,h1,h2,h3,h4,h5,h6,h7,e7,e8,e9,e11,ab]
 ·rw[c4] at h7;simp only[if_true];simp only[af,b7,ae,ints,e10] at*;generalize (jR f t w).map aO=rf at*;generalize b.ae.map ah=rm at*;generalize aA b.gone=rg at*;simp (maxSteps:=9^9) [ba,dS.m,dS.b,aa,setAt,h1,h2,h3,h4,h5,h6,h7,e7,e8,e9,e11,ab]
end Mx
namespace Mx
attribute [simp] tK
open Go
variable {M:Nat→Option Body}
theorem Bj{l:List Int}{n:Int}(hl:ym l):aQ l [n]=la l n:=
 zV (nV l [n]) (tW hl) fun z=>by rw[iQ,qi];simp;exact or_comm
theorem jr.ak(h:jr.k M)(a:List Int)(n:Int)(ha:a.length≤1048576):run M 163 [.c (ints a),.c (I n)] []=some (.c (.sl true 1 (aA (aQ a [n]))),[]):=by
 obtain⟨h0,k1,k2,k3⟩:=h;have h1:=eR.ak k1 a ha;have hab:(a++[n]).length≤4294967296:=by simp;omega
 have h2:=Aq k2 (a++[n]) hab;have hsl:(lQ (a++[n])).length=(a++[n]).length:=by simp[lQ]
 have h3:=vi k3 (lQ (a++[n])) (by rw[hsl];exact hab);rw[sU] at h3;have hjl:(aQ a [n]).length≤(a++[n]).length:=by
  have:=ss (a++[n]) [];simp only[aQ];simpa using this
 refine au (b:=jr.m) h0 ⟨0, ?_⟩;rw[hsl] at h3;have e1:aA (a++[n])=aA a++[[I n]]:=o_ a n;have e2:aA (aQ a [n]++List.replicate ((a++[n]).length-(aQ a [n]).length) 0)=aA (aQ a [n])++aA (List.replicate ((a++[n]).length-(aQ a [n]).length) 0):=by simp[aA]
 rw[e1] at h2;rw[e2] at h3;simp only[aD,bM] at h2 h3 hab hjl;have l1:=aS a;have l3:=aS (aQ a [n]);have l4:(aA (List.replicate (a.length+1-(aQ a [n]).length) 0)).length=a.length+1-(aQ a [n]).length:=by simp[aA]
 have s1:=kX (lQ (a++[n]));have s2:=kX (aQ a [n]);have l5:=aS (lQ (a++[n]));rw[hsl] at l5;simp only[aD,bM] at l5;simp only[ints] at h1 ⊢;generalize aA (List.replicate (a.length+1-(aQ a [n]).length) 0)=rz at*;generalize aA (lQ (a++[n]))=rs at*;generalize aQ a [n]=j at*;generalize aA j=rj at*;have e5:a.length≤4294967296:=by omega
 have e6:j.length≤rj.length+rz.length:=by omega
 generalize aA a=ra at*;simp (maxSteps:=9^9) [ba,jr.m,jr.b,aa,h1,h2,h3,hab,l1,l3,l4,l5,s1,s2,ab]
theorem C4{α:Type}(x:α)(q:List α):∃q' y,x::q=q'++[y]∧q'.length=q.length:=by
 refine⟨(x::q).dropLast,(x::q).getLast (by simp),(List.dropLast_concat_getLast (by simp)).symm,by simp⟩
theorem sD(h:aX.k M)(p:List (List T))(x:List T)(q:List (List T))(hl:p.length+(q.length+1)≤1048576):
  run M 162 [.c (.row 0 0 0 (p.length+(q.length+1))),.c (I p.length),.c (I ((p.length:Int)+1))] [(0,⟨0,4,true,false,p++x::q⟩)]=
   some (.c (.row 0 0 0 (p.length+q.length)),[(0,⟨0,4,true,false,p++q++[sQ]⟩)]):=by
 refine au (b:=aX.m) h ⟨0, ?_⟩;obtain⟨q',y,hy,hq'⟩:=C4 x q;have g1:(0:Int)≤(p.length:Int)+1:=by omega
 have g2:¬(p.length:Int)=(p.length:Int)+1:=by omega
 have g3:(p++x::q).take p.length=p:=by simp
 have g4:(p++x::q).drop (p.length+1)=q:=by simp
 have g5:(p++x::q).drop (p.length+q.length)=[y]:=by
  rw[hy,←hq',List.drop_append];simp
 have g6:p.length+(q.length+1)-(p.length+1)=q.length:=by omega
 have g7:(p++x::q).length=p.length+(q.length+1):=by simp
 have g8:p.length+(q.length+1)-(p.length+q.length)=1:=by omega
 have g9:p.length+q.length≤p.length+(q.length+1):=by omega
 have g10:p.length+q.length≤4294967296:=by omega
 have g11:¬p.length+q.length=p.length+(q.length+1):=by omega
 have g12:(p++q++[y]).length=p.length+(q.length+1):=by simp
 have g13:(p++q++[y]).take (p.length+q.length)=p++q:=by rw[←aD,List.take_left]
 have g19:(1:Int)≤(q.length:Int)+1:=by omega
 have g20:1≤q.length+1:=by omega
 have g14:(p++q++[y]).drop (p.length+(q.length+1))=[]:=dY (by rw[g12];omega);have g15:p.length+1≤p.length+(q.length+1):=by omega
 have g16:p.length+q.length+1=p.length+(q.length+1):=by omega
 have g17:(0:Int)≤(p.length:Int)+(q.length:Int):=by omega
 have g18:(0:Int)≤(p.length:Int)+((q.length:Int)+1):=by omega
 have g21:p.length+1+q.length≤p.length+(q.length+1):=by omega
 have g22:1+q.length≤q.length+1:=by omega
 generalize hR:p++x::q=R at*;simp only[b4] at g12 g13 g14;by_cases hq0:q=[]
 ·subst hq0;by_cases hz:p.length=0
  ·have hp:p=[]:=aY hz;subst hp;simp at g1 g2 g3 g4 g5 g6 g7 g8 g9 g10 g11 g12 g13 g14 g15 g16 g17 g18;simp (maxSteps:=9^9) [ba,aX.m,aX.b,aa,g5]
  ·simp at g1 g2 g3 g4 g5 g6 g7 g8 g9 g10 g11 g12 g13 g14 g15 g16 g17 g18;simp (maxSteps:=9^9) [ba,aX.m,aX.b,aa,g1,g2,g3,g5,g7,g10,hz]
 ·have g23:((p.length:Int)+(q.length:Int)).toNat=p.length+q.length:=by omega
  have g24:((p.length:Int)+((q.length:Int)+1)).toNat=p.length+(q.length+1):=by omega
  have g25:max ((p.length:Int)+(q.length:Int)) 0≤(p.length:Int)+((q.length:Int)+1):=by omega
  by_cases hz:p.length=0
  ·have hp:p=[]:=aY hz;subst hp;simp at g1 g2 g3 g4 g5 g6 g7 g8 g9 g10 g11 g12 g13 g14 g15 g16 g17 g18;simp (maxSteps:=9^9) [ba,aX.m,aX.b,aa,g4,g5,g7,g10,g18,g20,g22,hq0,ab]
  ·simp (maxSteps:=9^9) [ba,aX.m,aX.b,aa,g1,g2,g3,g4,g5,g6,g7,g8,g9,g10,g12,g13,g14,g15,g16,g17,g18,g21,g23,g24,hz,hq0,ab]
end Mx
