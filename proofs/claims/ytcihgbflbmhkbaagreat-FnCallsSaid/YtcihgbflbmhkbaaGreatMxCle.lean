/-
  What more of the functions compute, each by a small evaluation; no condition beyond what each says.
-/
import Derived.Test.YtcihgbflbmhkbaaGreatMxCld
set_option maxHeartbeats 16000000
set_option linter.unusedSimpArgs false
set_option linter.unusedVariables false
namespace Mx
open Go
variable {M:Nat→Option Body}
def tC{α:Type}(p:α→Bool)(l:List α)(i:Nat):Bool:=match l[i]? with|some m=>p m|none=>false
theorem jO{α:Type}(p:α→Bool)(l:List α)(i:Nat)(h:i<l.length):tC p l i=p l[i]:=by simp[tC,h]
def Lk(f:Nat)(cs:List T)(l:List bp)(i:Nat)(x:Nat):St:={t:=[(0,.c (ae l)),(1,.c (.fn f [.vp cs 0])),(7,.c (I l.length)),(8,.c (I i))],o:=[],n:=x}
theorem aB.gen(h:aB.k M){f:Nat}{cs:List T}{p:bp→Bool}(hf:∀m,run M f [.a (ah m),.c (.vp cs 0)] []=some (.c (.bool (p m)),[]))(l:List bp)(hl:l.length≤1048576):
  run M 161 [.c (ae l),.c (.fn f [.vp cs 0])] []=some (.c (I (dN (eE (tC p l) l.length))),[]):=by
 refine ao (b:=aB.m) h ⟨l.length+1, ?_⟩;obtain⟨g',hr⟩:=mW (f:=cy (run M) (l.length+1) aB.l0) l.length (tC p l) (Lk f cs l) jU po
  (fun i hi x c=>by
   have hm:=hf l[i];rw[jO p l i hi] at c;rw[c] at hm;have e5:=cz (i:=i) (by omega);simp[Lk,aB.l0,hi,hm,ah,e5])
  (fun i hi x c=>by
   have hm:=hf l[i];rw[jO p l i hi] at c;rw[c] at hm;simp[Lk,aB.l0,hi,hm,ah,jU];exact⟨⟨[],[],_⟩,rfl⟩)
  (fun x=>by simp[Lk,aB.l0,jU])
 cases hm:eE (tC p l) l.length with
 |none=>
  simp[Lk,hm,jU] at hr;simp[a8,aB.m,aB.b,aa,hr,dN]
 |some k=>
  simp[Lk,hm,jU] at hr;simp[a8,aB.m,aB.b,aa,hr,dN]
theorem IP{f:Nat}{cs:List T}{g u:Int}{fl:List (List T)}{tx:List UInt8}(hf:run M f [.a [I g,I u,.sl false 3 fl,S tx],.c (.vp cs 0)] []=some (.c (.bool false),[]))(m N i j:Nat)(hN:N≤1048576)(rr:List (List T))(hj:j<N)(hi:i<N)(e2:rr.length=N)
  (a1:∀hh,rr[j]'hh=[I g,I u,.sl false 3 fl,S tx]) (n:Nat) (ri:List T) (a2:rr[i]? =some ri) (a3:ri.length=4):
  ∃n',cy (run M) m aD.l0 {t:=[(0,.c (.row 0 0 0 N)),(1,.c (.fn f [.vp cs 0])),(5,.c (I i)),(6,.c (I j))],o:=[(0,⟨0,4,true,false,rr⟩)],n:=n}=
   some (.normal,{t:=[(0,.c (.row 0 0 0 N)),(1,.c (.fn f [.vp cs 0])),(5,.c (I (i+1:Nat))),(6,.c (I (j+1:Nat)))],o:=[(0,⟨0,4,true,false,rr.set i [I g,I u,.sl false 3 fl,S tx]⟩)],n:=n'}):=by
 have e5:=cz (i:=i) (by omega);have e6:=cz (i:=j) (by omega)
 match ri,a3 with
 |[r0,r1,r2,r3],_=>
  have a4:∀hh,rr[i]'hh=[r0,r1,r2,r3]:=by
   intro hh;rw[bW hh] at a2;exact Option.some.inj a2
  clear a2;simp (maxSteps:=9^9) [aD.l0,setAt,hf,hj,hi,e2,a1,a4,e5,e6]
theorem IQ{f:Nat}{cs:List T}{g u:Int}{fl:List (List T)}{tx:List UInt8}(hf:run M f [.a [I g,I u,.sl false 3 fl,S tx],.c (.vp cs 0)] []=some (.c (.bool true),[]))(m N i j:Nat)(hN:N≤1048576)(rr:List (List T))(hj:j<N)(e2:rr.length=N)
  (a1:∀hh,rr[j]'hh=[I g,I u,.sl false 3 fl,S tx]) (n:Nat):
  ∃n',cy (run M) m aD.l0 {t:=[(0,.c (.row 0 0 0 N)),(1,.c (.fn f [.vp cs 0])),(5,.c (I i)),(6,.c (I j))],o:=[(0,⟨0,4,true,false,rr⟩)],n:=n}=
   some (.normal,{t:=[(0,.c (.row 0 0 0 N)),(1,.c (.fn f [.vp cs 0])),(5,.c (I i)),(6,.c (I (j+1:Nat)))],o:=[(0,⟨0,4,true,false,rr⟩)],n:=n'}):=by
 have e6:=cz (i:=j) (by omega);simp (maxSteps:=9^9) [aD.l0,setAt,hf,hj,e2,a1,e6]
theorem KE{f:Nat}{cs:List T}(m N i j:Nat)(rr:List (List T))(hj:¬j<N)(n:Nat):
  ∃n',cy (run M) m aD.l0 {t:=[(0,.c (.row 0 0 0 N)),(1,.c (.fn f [.vp cs 0])),(5,.c (I i)),(6,.c (I j))],o:=[(0,⟨0,4,true,false,rr⟩)],n:=n}=
   some (.exit 0,{t:=[(0,.c (.row 0 0 0 N)),(1,.c (.fn f [.vp cs 0])),(5,.c (I i)),(6,.c (I j)),(19,.c (.bool false))],o:=[(0,⟨0,4,true,false,rr⟩)],n:=n'}):=by
 simp (maxSteps:=9^9) [aD.l0,hj]
structure MV where
 j:Nat
 D:List bp
 n:Nat
def lX(p:bp→Bool)(l:List bp)(j:Nat):List bp:=(l.take j).filter fun m=> !p m
def KF(f:Nat)(cs:List T)(p:bp→Bool)(l:List bp)(s:MV):St:={t:=[(0,.c (.row 0 0 0 l.length)),(1,.c (.fn f [.vp cs 0])),(5,.c (I (lX p l s.j).length)),(6,.c (I s.j))],o:=[(0,⟨0,4,true,false,s.D.map ah⟩)],n:=s.n}
def Nv(f:Nat)(cs:List T)(p:bp→Bool)(l:List bp)(s:MV):St:={t:=[(0,.c (.row 0 0 0 l.length)),(1,.c (.fn f [.vp cs 0])),(5,.c (I (lX p l s.j).length)),(6,.c (I s.j)),(19,.c (.bool false))],o:=[(0,⟨0,4,true,false,s.D.map ah⟩)],n:=s.n}
structure Ml (p:bp→Bool) (l:List bp) (s:MV):Prop where
 j:s.j≤l.length
 len:s.D.length=l.length
 tk:s.D.take (lX p l s.j).length=lX p l s.j
 dr:s.D.drop s.j=l.drop s.j
 lt:(lX p l s.j).length<s.j
theorem IN{f:Nat}{cs:List T}{p:bp→Bool}(hf:∀m,run M f [.a (ah m),.c (.vp cs 0)] []=some (.c (.bool (p m)),[]))(k:Nat)(l:List bp)(hN:l.length≤1048576)(s:MV)(hs:Ml p l s):
  (∃s',cy (run M) k aD.l0 (KF f cs p l s)=some (.normal,KF f cs p l s')∧Ml p l s'∧l.length-s'.j<l.length-s.j)∨
   (∃r,cy (run M) k aD.l0 (KF f cs p l s)=some r∧r.1≠.normal∧∃s',r=(.exit 0,Nv f cs p l s')∧s'.j=l.length∧Ml p l s'):=by
 obtain⟨j,D,n⟩:=s;obtain⟨h1,h2,h3,h4,h5⟩:=hs;simp only at h1 h2 h3 h4 h5;by_cases c:j<l.length
 ·left;have hD:D[j]'(by omega)=l[j]:=by
   have q1:=bC (l:=D) (i:=j) (by omega);have q2:=bC (l:=l) (i:=j) c;rw[h4,q2] at q1;exact(List.cons.inj q1).1.symm
  have hdr:D.drop (j+1)=l.drop (j+1):=by
   have q1:=bC (l:=D) (i:=j) (by omega);have q2:=bC (l:=l) (i:=j) c;rw[h4,q2] at q1;exact(List.cons.inj q1).2.symm
  have a1:∀hh,(D.map ah)[j]'hh=ah l[j]:=by intro hh;simp[hD]
  have e2:(D.map ah).length=l.length:=by simpa using h2
  have hm:=hf l[j];have ek:lX p l (j+1)=lX p l j++if p l[j]=true then [] else [l[j]]:=by
   simp only[lX,il l j c,List.filter_append];cases q:p l[j]<;>simp[q]
  cases q:p l[j] with
  |true=>
   rw[q] at hm;obtain⟨n',hh⟩:=IQ hm k l.length (lX p l j).length j hN (D.map ah) c e2 a1 n;rw[q] at ek;simp only[if_true,eM] at ek;refine⟨⟨j+1,D,n'⟩, ?_,⟨by simp only;omega,h2,by simp only[ek];exact h3,hdr,by simp only[ek];omega⟩,by simp only;omega⟩;simp only[KF,ek];exact hh
  |false=>
   rw[q] at hm;have hi:(lX p l j).length<l.length:=by omega
   obtain⟨n',hh⟩:=IP hm k l.length (lX p l j).length j hN (D.map ah) c hi e2 a1 n (ah (D[(lX p l j).length]'(by omega))) (by rw[iS,bW (by omega)];rfl) rfl;rw[q] at ek;simp only[ay,if_false] at ek;have el:(lX p l (j+1)).length=(lX p l j).length+1:=by rw[ek];simp
   refine⟨⟨j+1,D.set (lX p l j).length l[j],n'⟩, ?_,⟨by simp only;omega,by simpa using h2, ?_, ?_,by simp only[el];omega⟩,by simp only;omega⟩
   ·simp only[KF,el,fR];exact hh
   ·show (D.set (lX p l j).length l[j]).take (lX p l (j+1)).length=lX p l (j+1);rw[el,ek,il _ _ (by simp;omega),List.take_set_of_le (Nat.le_refl _),h3];simp
   ·simp only;rw[List.drop_set_of_lt (by omega)];exact hdr
 ·right;have hj:j=l.length:=by omega
  obtain⟨n',hh⟩:=KE (M:=M) (f:=f) (cs:=cs) k l.length (lX p l j).length j (D.map ah) c n;exact⟨_,hh,by simp,⟨j,D,n'⟩,rfl,hj,⟨h1,h2,h3,h4,h5⟩⟩
theorem aD.al(h:aD.k M){f:Nat}{cs:List T}{p:bp→Bool}(hf:∀m,run M f [.a (ah m),.c (.vp cs 0)] []=some (.c (.bool (p m)),[]))(l:List bp)(hl:l.length≤1048576):
  run M 453 [.c (.row 0 0 0 l.length),.c (.fn f [.vp cs 0])] [rB l []]=
   some (.c (.row 0 0 0 (l.filter fun m=> !p m).length),[(0,⟨0,4,true,false,(l.filter fun m=> !p m).map ah++List.replicate (l.length-(l.filter fun m=> !p m).length) sK⟩)]):=by
 obtain⟨h0,k1⟩:=h;have h1:=aB.gen k1 hf l hl;refine ao (b:=aD.m) h0 ⟨l.length+1, ?_⟩;have e0:(l.map ah).length=l.length:=by simp
 cases hq:eE (tC p l) l.length with
 |none=>
  have hall:(l.filter fun m=> !p m)=l:=List.filter_eq_self.2 fun m hm=>by
   obtain⟨j,hj,rfl⟩:=bF hm;have:=mg hq j hj;rw[jO p l j hj] at this;simp[this]
  rw[hall,Nat.sub_self,List.replicate_zero,eM];rw[hq] at h1;simp only[rB,ae,dN,eM] at h1 ⊢;generalize l.map ah=r0 at*;simp (maxSteps:=9^9) [a8,aD.m,aD.b,aa,h1,e0,ab]
 |some k=>
  rw[hq] at h1;obtain⟨hk1,hk2,hk3⟩:=mf hq;rw[jO p l k hk1] at hk2;have ek:lX p l k=l.take k:=by
   refine List.filter_eq_self.2 fun m hm=> ?_
   obtain⟨j,hj,rfl⟩:=bF hm;have hj':j<k:=by simp at hj;omega
   have:=hk3 j hj';rw[jO p l j (by omega)] at this;simp[this]
  have ek1:lX p l (k+1)=l.take k:=by
   simp only[lX,il l k hk1,List.filter_append] at ek ⊢;rw[ek];simp[hk2]
  have el:(lX p l (k+1)).length=k:=by rw[ek1];simp;omega
  obtain⟨r,hr,⟨⟨j,D,n'⟩,rfl,hj,hI⟩⟩:=kC (f:=cy (run M) (l.length+1) aD.l0) (KF f cs p l) (Ml p l) (fun s=>l.length-s.j)
   (fun r=>∃s',r=(.exit 0,Nv f cs p l s')∧s'.j=l.length∧Ml p l s') (fun s hs=>IN hf (l.length+1) l hl s hs) (l.length+1) ⟨k+1,l,2000160⟩
   ⟨by simp only;omega,rfl,by show l.take (lX p l (k+1)).length=lX p l (k+1);rw[el,ek1],rfl,by simp only[el];omega⟩ (by simp only;omega)
  obtain⟨_,hlen,htk,_,hlt⟩:=hI;simp only at hj hlen htk hlt;subst hj;have ef:lX p l l.length=l.filter fun m=> !p m:=by simp[lX]
  rw[ef] at htk hlt;simp only[KF,Nv,el,ef] at hr;have e1:(D.map ah).length=l.length:=by simpa using hlen
  have e2:(D.map ah).take (l.filter fun m=> !p m).length=(l.filter fun m=> !p m).map ah:=by rw[←List.map_take,htk]
  have e3:((l.filter fun m=> !p m).map ah).length=(l.filter fun m=> !p m).length:=by simp
  have e5:=cz (i:=k) (by omega);have e6:((k+1:Nat):Int)=(k:Int)+1:=by omega
  have e7:¬(k:Int)= -1:=by omega
  rw[e6] at hr;simp only[rB,ae,dN,eM] at h1 ⊢;generalize (l.filter fun m=> !p m).map ah=rf at*;generalize (l.filter fun m=> !p m).length=nf at*;generalize D.map ah=rd at*;generalize l.map ah=r0 at*;clear hk2 hk3 ek ek1 el hq ef;generalize l.length=N at*;have e8:nf≤N:=by omega
  have e9:¬N=nf:=by omega
  have e10:¬nf=N:=by omega
  have e11:nf+(N-nf)=N:=by omega
  have e12:¬N-nf=0:=by omega
  have e13:List.drop N rd=[]:=eK (by omega);simp (maxSteps:=9^9) [a8,aD.m,aD.b,aa,h1,hr,e0,e1,e2,e3,e5,e7,e8,e10,e11,e12,e13,ab]
theorem fB.al(h:fB.k M)(x y:bz):run M 481 [.a (af x),.a (af y)] []=some (.c (I (rN x.gid y.gid)),[]):=by
 have h1:=fp.al h.2 x.gid y.gid;refine ao (b:=fB.m) h.1 ⟨0, ?_⟩;simp (maxSteps:=9^9) [a8,fB.m,fB.b,aa,h1,af]
structure MW where
 j:Nat
 D:List bz
 n:Nat
def Ln(f N i:Nat)(Z:List (List T))(s:MW):St:={t:=[(0,.c (.row 0 0 0 N)),(1,.c (I 0)),(2,.c (I N)),(3,.c (.fn f [])),(8,.c (I i)),(9,.c (I s.j))],o:=[(0,⟨0,7,true,false,s.D.map af++Z⟩)],n:=s.n}
def Ny(f N i:Nat)(Z:List (List T))(s:MW):St:={t:=[(0,.c (.row 0 0 0 N)),(1,.c (I 0)),(2,.c (I N)),(3,.c (.fn f [])),(8,.c (I i)),(9,.c (I s.j)),(34,.c (.bool false))],o:=[(0,⟨0,7,true,false,s.D.map af++Z⟩)],n:=s.n}
structure NM (k:bz→Int) (N:Nat) (R:List bz) (s:MW):Prop where
 len:s.D.length=N
 lt:s.j<N
 e:∃P x Q,P.length=s.j∧s.D=P++x::Q∧n7 k P∧iG k P x++Q=R
theorem IY{f:Nat}{g t w u g' t' w' u':Int}{nm nm':List UInt8}{fl fl' tx tx':List (List T)}{c:Int}
  (hcmp:run M f [.a [I g,S nm,I t,I w,I u,.sl false 4 fl,.sl false 1 tx],.a [I g',S nm',I t',I w',I u',.sl false 4 fl',.sl false 1 tx']] []=some (.c (I c),[])) (hc:c<0) (m N i j p:Nat) (hN:N≤1048576) (rr:List (List T)) (e1:IntKind.i64.wrap ((j:Int)-1)=(p:Int)) (hj:j<N) (hp:p<N) (h0:0<j) (e2:j<rr.length) (e3:p<rr.length) (hne:¬j=p) (hne':¬p=j)
  (a1:∀hh,rr[p]'hh=[I g',S nm',I t',I w',I u',.sl false 4 fl',.sl false 1 tx']) (a2:∀hh,rr[j]'hh=[I g,S nm,I t,I w,I u,.sl false 4 fl,.sl false 1 tx]) (n:Nat):
  ∃n',cy (run M) m az.l1 {t:=[(0,.c (.row 0 0 0 N)),(1,.c (I 0)),(2,.c (I N)),(3,.c (.fn f [])),(8,.c (I i)),(9,.c (I j))],o:=[(0,⟨0,7,true,false,rr⟩)],n:=n}=
   some (.normal,{t:=[(0,.c (.row 0 0 0 N)),(1,.c (I 0)),(2,.c (I N)),(3,.c (.fn f [])),(8,.c (I i)),(9,.c (I p))],o:=[(0,⟨0,7,true,false,(rr.set j [I g',S nm',I t',I w',I u',.sl false 4 fl',.sl false 1 tx']).set p [I g,S nm,I t,I w,I u,.sl false 4 fl,.sl false 1 tx]⟩)],n:=n'}):=by
 simp (maxSteps:=9^9) [az.l1,aa,setAt,hcmp,hc,a1,a2,e1,e2,e3,hj,hp,h0,hne]
theorem IZ{f:Nat}{g t w u g' t' w' u':Int}{nm nm':List UInt8}{fl fl' tx tx':List (List T)}{c:Int}
  (hcmp:run M f [.a [I g,S nm,I t,I w,I u,.sl false 4 fl,.sl false 1 tx],.a [I g',S nm',I t',I w',I u',.sl false 4 fl',.sl false 1 tx']] []=some (.c (I c),[])) (hc:¬c<0) (m N i j p:Nat) (hN:N≤1048576) (rr:List (List T)) (e1:IntKind.i64.wrap ((j:Int)-1)=(p:Int)) (hj:j<N) (hp:p<N) (h0:0<j) (e2:j<rr.length) (e3:p<rr.length) (hne:¬j=p) (hne':¬p=j)
  (a1:∀hh,rr[p]'hh=[I g',S nm',I t',I w',I u',.sl false 4 fl',.sl false 1 tx']) (a2:∀hh,rr[j]'hh=[I g,S nm,I t,I w,I u,.sl false 4 fl,.sl false 1 tx]) (n:Nat):
  ∃n',cy (run M) m az.l1 {t:=[(0,.c (.row 0 0 0 N)),(1,.c (I 0)),(2,.c (I N)),(3,.c (.fn f [])),(8,.c (I i)),(9,.c (I j))],o:=[(0,⟨0,7,true,false,rr⟩)],n:=n}=
   some (.exit 2,{t:=[(0,.c (.row 0 0 0 N)),(1,.c (I 0)),(2,.c (I N)),(3,.c (.fn f [])),(8,.c (I i)),(9,.c (I j)),(34,.c (.bool false))],o:=[(0,⟨0,7,true,false,rr⟩)],n:=n'}):=by
 simp (maxSteps:=9^9) [az.l1,aa,hcmp,hc,a1,a2,e1,e2,e3,hj,hp,h0]
theorem KK{f:Nat}(m N i:Nat)(rr:List (List T))(n:Nat):
  ∃n',cy (run M) m az.l1 {t:=[(0,.c (.row 0 0 0 N)),(1,.c (I 0)),(2,.c (I N)),(3,.c (.fn f [])),(8,.c (I i)),(9,.c (I 0))],o:=[(0,⟨0,7,true,false,rr⟩)],n:=n}=
   some (.exit 2,{t:=[(0,.c (.row 0 0 0 N)),(1,.c (I 0)),(2,.c (I N)),(3,.c (.fn f [])),(8,.c (I i)),(9,.c (I 0)),(34,.c (.bool false))],o:=[(0,⟨0,7,true,false,rr⟩)],n:=n'}):=by
 simp (maxSteps:=9^9) [az.l1,aa]
theorem IX{f:Nat}{k:bz→Int}(hf:∀x y:bz,run M f [.a (af x),.a (af y)] []=some (.c (I (rN (k x) (k y))),[]))(m N i:Nat)(hN:N≤1048576)(Z:List (List T))(R:List bz)(s:MW)(hs:NM k N R s):
  (∃s',cy (run M) m az.l1 (Ln f N i Z s)=some (.normal,Ln f N i Z s')∧NM k N R s'∧s'.j<s.j)∨
   (∃r,cy (run M) m az.l1 (Ln f N i Z s)=some r∧r.1≠.normal∧∃s',r=(.exit 2,Ny f N i Z s')∧s'.D=R):=by
 obtain⟨j,D,n⟩:=s;obtain⟨hl,hj,P,x,Q,hP,hD,hsort,hR⟩:=hs;simp only at hl hj hP hD;rcases List.eq_nil_or_concat P with rfl|⟨P',y,rfl⟩
 ·right;have hj0:j=0:=by simpa using hP.symm
  subst hj0;obtain⟨n',hh⟩:=KK (M:=M) (f:=f) m N i (D.map af++Z) n;exact⟨_,hh,by simp,⟨0,D,n'⟩,rfl,by rw[←hR,hD];simp[iG]⟩
 ·rw[List.concat_eq_append] at hP hD hsort hR;have hlen:j=P'.length+1:=by simpa using hP.symm
  have hDm:D.map af=(P'++y::(x::Q)).map af:=by rw[hD];simp
  have hDm2:D.map af=((P'++[y])++x::Q).map af:=by rw[hD]
  have a1:∀hh,(D.map af++Z)[P'.length]'hh=af y:=by
   intro hh;rw[List.getElem_append_left (by simp;omega)];exact zD hDm P'.length rfl _
  have a2:∀hh,(D.map af++Z)[j]'hh=af x:=by
   intro hh;rw[List.getElem_append_left (by simp;omega)];exact zD hDm2 j (by simp[hlen]) _
  have hcmp:=hf x y;have e1:IntKind.i64.wrap ((j:Int)-1)=(P'.length:Int):=by rw[wrap_i64 (by omega) (by omega)];omega
  by_cases c:k x<k y
  ·left;obtain⟨n',hh⟩:=IY hcmp (tZ.2 c) m N i j P'.length hN (D.map af++Z) e1 hj (by omega) (by omega) (by simp;omega) (by simp;omega) (by omega) (by omega) a1 a2 n;refine⟨⟨P'.length,P'++x::(y::Q),n'⟩, ?_,⟨by simp only;rw[hD] at hl;simp at hl ⊢;omega,by simp only;omega,P',x,y::Q,rfl,rfl,(List.pairwise_append.1 hsort).1,by rw[←hR,xf _ _ _ _ c]⟩,by simp only;omega⟩;have hs:=An af P' x y Q;simp only[Ln];rw[←hs,←hDm,←hlen];rw[List.set_append_left _ _ (by simp;omega),List.set_append_left _ _ (by simp;omega)] at hh;exact hh
  ·right;obtain⟨n',hh⟩:=IZ hcmp (fun q=>c (tZ.1 q)) m N i j P'.length hN (D.map af++Z) e1 hj (by omega) (by omega) (by simp;omega) (by simp;omega) (by omega) (by omega) a1 a2 n;refine⟨_,hh,by simp,⟨j,D,n'⟩,rfl, ?_⟩;simp only;rw[hD,←hR,xe]
   ·simp
   ·intro z hz;rcases List.mem_append.1 hz with q|q
    ·have:=(List.pairwise_append.1 hsort).2.2 z q y (by simp);omega
    ·simp at q;subst q;omega
def kQ(k:bz→Int)(l:List bz)(i:Nat):List bz:=fv k (l.take i)++l.drop i
theorem Al(k:bz→Int)(l:List bz)(i:Nat):(kQ k l i).length=l.length:=by
 simp only[kQ,aC,iR,jn,List.length_drop];omega
structure NL where
 i:Nat
 n:Nat
def KG(f:Nat)(Z:List (List T))(k:bz→Int)(l:List bz)(s:NL):St:={t:=[(0,.c (.row 0 0 0 l.length)),(1,.c (I 0)),(2,.c (I l.length)),(3,.c (.fn f [])),(8,.c (I s.i))],o:=[(0,⟨0,7,true,false,(kQ k l s.i).map af++Z⟩)],n:=s.n}
theorem IW{f:Nat}{k:bz→Int}(hf:∀x y:bz,run M f [.a (af x),.a (af y)] []=some (.c (I (rN (k x) (k y))),[]))(m:Nat)(Z:List (List T))(l:List bz)(hN:l.length≤1048576)(hm:l.length<m)(s:NL)(hs:1≤s.i∧s.i<l.length):
  ∃n',cy (run M) m az.l0 (KG f Z k l s)=some (.normal,KG f Z k l ⟨s.i+1,n'⟩):=by
 obtain⟨i,n⟩:=s;obtain⟨h1,h2⟩:=hs;simp only at h1 h2;have htk:l.take (i+1)=l.take i++[l[i]]:=il l i h2;have hdr:l.drop i=l[i]::l.drop (i+1):=bC h2;have hR:iG k (fv k (l.take i)) l[i]++l.drop (i+1)=kQ k l (i+1):=by
  simp only[kQ,htk];congr 1;unfold fv;rw[List.foldl_append];rfl
 obtain⟨r,hr,⟨⟨j,D,n'⟩,rfl,hD⟩⟩:=kC (f:=cy (run M) m az.l1) (Ln f l.length i Z) (NM k l.length (kQ k l (i+1))) (fun s=>s.j)
  (fun r=>∃s',r=(.exit 2,Ny f l.length i Z s')∧s'.D=kQ k l (i+1)) (fun s hs=>IX hf m l.length i hN Z _ s hs) m ⟨i,kQ k l i,n+48+32⟩
  ⟨Al k l i,h2,fv k (l.take i),l[i],l.drop (i+1),by rw[iR];simp;omega,by simp only[kQ,hdr],ow _,hR⟩ (by simp only;omega)
 simp only at hD;subst hD;simp only[Ln,Ny] at hr;have e5:=cz (i:=i) (by omega);simp only[KG];generalize (kQ k l i).map af++Z=r0 at*;generalize (kQ k l (i+1)).map af++Z=r1 at*;simp (maxSteps:=9^9) [az.l0,hr,h2,e5]
def sC(l:List bz)(Z:List (List T)):Nat×Ob:=(0,⟨0,7,true,false,l.map af++Z⟩)
theorem Am(k:bz→Int)(l:List bz):kQ k l l.length=fv k l:=by simp[kQ]
theorem Aj(k:bz→Int)(l:List bz):kQ k l 1=l:=by
 cases l with
 |nil=>rfl
 |cons x l=>simp[kQ,fv,iG]
def MN(f:Nat)(Z:List (List T))(k:bz→Int)(l:List bz)(s:NL):St:={t:=[(0,.c (.row 0 0 0 l.length)),(1,.c (I 0)),(2,.c (I l.length)),(3,.c (.fn f [])),(8,.c (I s.i)),(14,.c (.bool false))],o:=[(0,⟨0,7,true,false,(kQ k l s.i).map af++Z⟩)],n:=s.n}
theorem KJ{f:Nat}{k:bz→Int}(m:Nat)(Z:List (List T))(l:List bz)(i n:Nat)(h:l.length≤i):∃n',cy (run M) m az.l0 (KG f Z k l ⟨i,n⟩)=some (.exit 0,MN f Z k l ⟨i,n'⟩):=by
 have h2:¬i<l.length:=by omega
 simp only[KG,MN];generalize (kQ k l i).map af++Z=r0 at*;simp (maxSteps:=9^9) [az.l0,h2]
theorem az.al(h:az.k M){f:Nat}{k:bz→Int}(hf:∀x y:bz,run M f [.a (af x),.a (af y)] []=some (.c (I (rN (k x) (k y))),[]))
  (l:List bz) (Z:List (List T)) (hN:l.length≤1048576):run M 492 [.c (.row 0 0 0 l.length),.c (I 0),.c (I l.length),.c (.fn f [])] [sC l Z]=some (.lL [],[sC (fv k l) Z]):=by
 refine ao (b:=az.m) h ⟨l.length+1, ?_⟩;obtain⟨r,hr,⟨⟨i,n'⟩,rfl,hi⟩⟩:=kC (f:=cy (run M) (l.length+1) az.l0) (KG f Z k l) (fun s=>1≤s.i∧(s.i≤l.length∨s.i=1)) (fun s=>l.length-s.i)
  (fun r=>∃s',r=(.exit 0,MN f Z k l s')∧(s'.i=l.length∨l.length=0∧s'.i=1))
  (fun s hs=>by
   obtain⟨i,n⟩:=s;by_cases c:i<l.length
   ·left;obtain⟨n',hh⟩:=IW hf (l.length+1) Z l hN (by omega) ⟨i,n⟩ ⟨hs.1,c⟩;exact⟨_,hh,⟨by simp only;omega,by simp only;omega⟩,by simp only;omega⟩
   ·right;obtain⟨n',hh⟩:=KJ (M:=M) (f:=f) (k:=k) (l.length+1) Z l i n (by omega);simp only at hs;exact⟨_,hh,by simp,_,rfl,by simp only;omega⟩) (l.length+1) ⟨1,2000048⟩ ⟨by simp,by simp⟩ (by simp only;omega)
 have e1:kQ k l i=fv k l:=by
  rcases hi with hi|⟨h0,hi⟩
  ·simp only at hi;rw[hi,Am]
  ·have:l=[]:=ba h0;subst this;simp[kQ,fv]
 simp only[KG,MN,e1,Aj] at hr;have e2:IntKind.i64.wrap 1=1:=by decide
 have e3:((1:Nat):Int)=1:=rfl;rw[e3] at hr;simp only[sC];generalize l.map af++Z=r0 at*;generalize (fv k l).map af++Z=r1 at*;simp (maxSteps:=9^9) [a8,az.m,az.b,aa,hr,e2]
theorem az.rest(h:az.k M){f:Nat}(l:List bz)(Z:List (List T))(hN:l.length≤1048576):
  run M 492 [.c (.row 0 0 0 l.length),.c (I l.length),.c (I l.length),.c (.fn f [])] [sC l Z]=some (.lL [],[sC l Z]):=by
 refine ao (b:=az.m) h ⟨1, ?_⟩;have e2:IntKind.i64.wrap ((l.length:Int)+1)=(l.length:Int)+1:=wrap_i64 (by omega) (by omega);have e3:¬(l.length:Int)+1<l.length:=by omega
 simp only[sC];have e4:l.length≤(l.map af++Z).length:=by simp
 generalize l.map af++Z=r0 at*;simp (maxSteps:=9^9) [a8,az.m,az.b,aa,fi,az.l0,e2,e3]
theorem aT.al(h:aT.k M){f:Nat}{k:bz→Int}(hf:∀x y:bz,run M f [.a (af x),.a (af y)] []=some (.c (I (rN (k x) (k y))),[]))
  (l:List bz) (Z:List (List T)) (hN:l.length≤20):run M 490 [.c (.row 0 0 0 l.length),.c (I l.length),.c (.fn f [])] [sC l Z]=some (.lL [],[sC (fv k l) Z]):=by
 obtain⟨h0,k1⟩:=h;have h1:=az.al k1 hf l Z (by omega);have h2:=az.rest k1 (f:=f) (fv k l) Z (by rw[iR];omega);rw[iR] at h2;refine ao (b:=aT.m) h0 ⟨2, ?_⟩;have e1:l.length≤(l.map af++Z).length:=by simp
 have e2:l.length≤((fv k l).map af++Z).length:=by simp[iR]
 simp only[sC] at h1 h2 ⊢;generalize l.map af++Z=r0 at*;generalize (fv k l).map af++Z=r1 at*;by_cases c:l.length=20
 ·generalize l.length=N at*;subst c;simp only[aM] at h1 h2;have w1:IntKind.i64.wrap 40=40:=by decide
  simp (maxSteps:=9^9) [a8,aT.m,aT.b,aa,h1,h2,w1,fi,aT.l0,aT.l1,e1,e2]
 ·have c1:¬(20:Int)≤l.length:=by omega
  have c2:¬(20:Int)<l.length:=by omega
  have c3:¬20≤l.length:=by omega
  have c4:¬20<l.length:=by omega
  simp (maxSteps:=9^9) [a8,aT.m,aT.b,aa,h1,c1,c2,fi,aT.l0,aT.l1,e1]
theorem bd.al(h:bd.k M){f:Nat}{k:bz→Int}(hf:∀x y:bz,run M f [.a (af x),.a (af y)] []=some (.c (I (rN (k x) (k y))),[]))
  (l:List bz) (Z:List (List T)) (hN:l.length≤20):run M 480 [.c (.row 0 0 0 l.length),.c (.fn f [])] [sC l Z]=some (.lL [],[sC (fv k l) Z]):=by
 have h1:=aT.al h.2 hf l Z hN;refine ao (b:=bd.m) h.1 ⟨0, ?_⟩;have e1:l.length≤(l.map af++Z).length:=by simp
 simp only[sC] at h1 ⊢;generalize l.map af++Z=r0 at*;generalize (fv k l).map af++Z=r1 at*;simp (maxSteps:=9^9) [a8,bd.m,bd.b,aa,h1,e1]
def Ew(f:Nat)(cs:List T)(l:List bz)(i:Nat)(x:Nat):St:={t:=[(0,.c (boxes l)),(1,.c (.fn f [.vp cs 0])),(7,.c (I l.length)),(8,.c (I i))],o:=[],n:=x}
theorem aA.gen(h:aA.k M){f:Nat}{cs:List T}{p:bz→Bool}(hf:∀m,run M f [.a (af m),.c (.vp cs 0)] []=some (.c (.bool (p m)),[]))(l:List bz)(hl:l.length≤1048576):
  run M 200 [.c (boxes l),.c (.fn f [.vp cs 0])] []=some (.c (I (dN (eE (tC p l) l.length))),[]):=by
 refine ao (b:=aA.m) h ⟨l.length+1, ?_⟩;obtain⟨g',hr⟩:=mW (f:=cy (run M) (l.length+1) aA.l0) l.length (tC p l) (Ew f cs l) jU po
  (fun i hi x c=>by
   have hm:=hf l[i];rw[jO p l i hi] at c;rw[c] at hm;have e5:=cz (i:=i) (by omega);simp[Ew,aA.l0,hi,hm,af,e5])
  (fun i hi x c=>by
   have hm:=hf l[i];rw[jO p l i hi] at c;rw[c] at hm;simp[Ew,aA.l0,hi,hm,af,jU];exact⟨⟨[],[],_⟩,rfl⟩)
  (fun x=>by simp[Ew,aA.l0,jU])
 cases hm:eE (tC p l) l.length with
 |none=>
  simp[Ew,hm,jU] at hr;simp[a8,aA.m,aA.b,aa,hr,dN]
 |some k=>
  simp[Ew,hm,jU] at hr;simp[a8,aA.m,aA.b,aa,hr,dN]
theorem I2{f:Nat}{cs:List T}{g t w u:Int}{nm:List UInt8}{fl tx:List (List T)}(hf:run M f [.a [I g,S nm,I t,I w,I u,.sl false 4 fl,.sl false 1 tx],.c (.vp cs 0)] []=some (.c (.bool false),[]))(m N i j:Nat)(hN:N≤1048576)(rr:List (List T))(hj:j<N)(hi:i<N)(e2:rr.length=N)
  (a1:∀hh,rr[j]'hh=[I g,S nm,I t,I w,I u,.sl false 4 fl,.sl false 1 tx]) (n:Nat) (ri:List T) (a2:rr[i]? =some ri) (a3:ri.length=7):
  ∃n',cy (run M) m aE.l0 {t:=[(0,.c (.row 0 0 0 N)),(1,.c (.fn f [.vp cs 0])),(5,.c (I i)),(6,.c (I j))],o:=[(0,⟨0,7,true,false,rr⟩)],n:=n}=
   some (.normal,{t:=[(0,.c (.row 0 0 0 N)),(1,.c (.fn f [.vp cs 0])),(5,.c (I (i+1:Nat))),(6,.c (I (j+1:Nat)))],o:=[(0,⟨0,7,true,false,rr.set i [I g,S nm,I t,I w,I u,.sl false 4 fl,.sl false 1 tx]⟩)],n:=n'}):=by
 have e5:=cz (i:=i) (by omega);have e6:=cz (i:=j) (by omega)
 match ri,a3 with
 |[r0,r1,r2,r3,r4,r5,r6],_=>
  have a4:∀hh,rr[i]'hh=[r0,r1,r2,r3,r4,r5,r6]:=by
   intro hh;rw[bW hh] at a2;exact Option.some.inj a2
  clear a2;simp (maxSteps:=9^9) [aE.l0,setAt,hf,hj,hi,e2,a1,a4,e5,e6]
theorem I3{f:Nat}{cs:List T}{g t w u:Int}{nm:List UInt8}{fl tx:List (List T)}(hf:run M f [.a [I g,S nm,I t,I w,I u,.sl false 4 fl,.sl false 1 tx],.c (.vp cs 0)] []=some (.c (.bool true),[]))(m N i j:Nat)(hN:N≤1048576)(rr:List (List T))(hj:j<N)(e2:rr.length=N)
  (a1:∀hh,rr[j]'hh=[I g,S nm,I t,I w,I u,.sl false 4 fl,.sl false 1 tx]) (n:Nat):
  ∃n',cy (run M) m aE.l0 {t:=[(0,.c (.row 0 0 0 N)),(1,.c (.fn f [.vp cs 0])),(5,.c (I i)),(6,.c (I j))],o:=[(0,⟨0,7,true,false,rr⟩)],n:=n}=
   some (.normal,{t:=[(0,.c (.row 0 0 0 N)),(1,.c (.fn f [.vp cs 0])),(5,.c (I i)),(6,.c (I (j+1:Nat)))],o:=[(0,⟨0,7,true,false,rr⟩)],n:=n'}):=by
 have e6:=cz (i:=j) (by omega);simp (maxSteps:=9^9) [aE.l0,setAt,hf,hj,e2,a1,e6]
theorem KL{f:Nat}{cs:List T}(m N i j:Nat)(rr:List (List T))(hj:¬j<N)(n:Nat):
  ∃n',cy (run M) m aE.l0 {t:=[(0,.c (.row 0 0 0 N)),(1,.c (.fn f [.vp cs 0])),(5,.c (I i)),(6,.c (I j))],o:=[(0,⟨0,7,true,false,rr⟩)],n:=n}=
   some (.exit 0,{t:=[(0,.c (.row 0 0 0 N)),(1,.c (.fn f [.vp cs 0])),(5,.c (I i)),(6,.c (I j)),(19,.c (.bool false))],o:=[(0,⟨0,7,true,false,rr⟩)],n:=n'}):=by
 simp (maxSteps:=9^9) [aE.l0,hj]
structure MX where
 j:Nat
 D:List bz
 n:Nat
def lY(p:bz→Bool)(l:List bz)(j:Nat):List bz:=(l.take j).filter fun m=> !p m
def KM(f:Nat)(cs:List T)(p:bz→Bool)(l:List bz)(s:MX):St:={t:=[(0,.c (.row 0 0 0 l.length)),(1,.c (.fn f [.vp cs 0])),(5,.c (I (lY p l s.j).length)),(6,.c (I s.j))],o:=[(0,⟨0,7,true,false,s.D.map af⟩)],n:=s.n}
def NB(f:Nat)(cs:List T)(p:bz→Bool)(l:List bz)(s:MX):St:={t:=[(0,.c (.row 0 0 0 l.length)),(1,.c (.fn f [.vp cs 0])),(5,.c (I (lY p l s.j).length)),(6,.c (I s.j)),(19,.c (.bool false))],o:=[(0,⟨0,7,true,false,s.D.map af⟩)],n:=s.n}
structure Mn (p:bz→Bool) (l:List bz) (s:MX):Prop where
 j:s.j≤l.length
 len:s.D.length=l.length
 tk:s.D.take (lY p l s.j).length=lY p l s.j
 dr:s.D.drop s.j=l.drop s.j
 lt:(lY p l s.j).length<s.j
theorem I1{f:Nat}{cs:List T}{p:bz→Bool}(hf:∀m,run M f [.a (af m),.c (.vp cs 0)] []=some (.c (.bool (p m)),[]))(k:Nat)(l:List bz)(hN:l.length≤1048576)(s:MX)(hs:Mn p l s):
  (∃s',cy (run M) k aE.l0 (KM f cs p l s)=some (.normal,KM f cs p l s')∧Mn p l s'∧l.length-s'.j<l.length-s.j)∨
   (∃r,cy (run M) k aE.l0 (KM f cs p l s)=some r∧r.1≠.normal∧∃s',r=(.exit 0,NB f cs p l s')∧s'.j=l.length∧Mn p l s'):=by
 obtain⟨j,D,n⟩:=s;obtain⟨h1,h2,h3,h4,h5⟩:=hs;simp only at h1 h2 h3 h4 h5;by_cases c:j<l.length
 ·left;have hD:D[j]'(by omega)=l[j]:=by
   have q1:=bC (l:=D) (i:=j) (by omega);have q2:=bC (l:=l) (i:=j) c;rw[h4,q2] at q1;exact(List.cons.inj q1).1.symm
  have hdr:D.drop (j+1)=l.drop (j+1):=by
   have q1:=bC (l:=D) (i:=j) (by omega);have q2:=bC (l:=l) (i:=j) c;rw[h4,q2] at q1;exact(List.cons.inj q1).2.symm
  have a1:∀hh,(D.map af)[j]'hh=af l[j]:=by intro hh;simp[hD]
  have e2:(D.map af).length=l.length:=by simpa using h2
  have hm:=hf l[j];have ek:lY p l (j+1)=lY p l j++if p l[j]=true then [] else [l[j]]:=by
   simp only[lY,il l j c,List.filter_append];cases q:p l[j]<;>simp[q]
  cases q:p l[j] with
  |true=>
   rw[q] at hm;obtain⟨n',hh⟩:=I3 hm k l.length (lY p l j).length j hN (D.map af) c e2 a1 n;rw[q] at ek;simp only[if_true,eM] at ek;refine⟨⟨j+1,D,n'⟩, ?_,⟨by simp only;omega,h2,by simp only[ek];exact h3,hdr,by simp only[ek];omega⟩,by simp only;omega⟩;simp only[KM,ek];exact hh
  |false=>
   rw[q] at hm;have hi:(lY p l j).length<l.length:=by omega
   obtain⟨n',hh⟩:=I2 hm k l.length (lY p l j).length j hN (D.map af) c hi e2 a1 n (af (D[(lY p l j).length]'(by omega))) (by rw[iS,bW (by omega)];rfl) rfl;rw[q] at ek;simp only[ay,if_false] at ek;have el:(lY p l (j+1)).length=(lY p l j).length+1:=by rw[ek];simp
   refine⟨⟨j+1,D.set (lY p l j).length l[j],n'⟩, ?_,⟨by simp only;omega,by simpa using h2, ?_, ?_,by simp only[el];omega⟩,by simp only;omega⟩
   ·simp only[KM,el,fR];exact hh
   ·show (D.set (lY p l j).length l[j]).take (lY p l (j+1)).length=lY p l (j+1);rw[el,ek,il _ _ (by simp;omega),List.take_set_of_le (Nat.le_refl _),h3];simp
   ·simp only;rw[List.drop_set_of_lt (by omega)];exact hdr
 ·right;have hj:j=l.length:=by omega
  obtain⟨n',hh⟩:=KL (M:=M) (f:=f) (cs:=cs) k l.length (lY p l j).length j (D.map af) c n;exact⟨_,hh,by simp,⟨j,D,n'⟩,rfl,hj,⟨h1,h2,h3,h4,h5⟩⟩
theorem aE.al(h:aE.k M){f:Nat}{cs:List T}{p:bz→Bool}(hf:∀m,run M f [.a (af m),.c (.vp cs 0)] []=some (.c (.bool (p m)),[]))(l:List bz)(hl:l.length≤1048576):
  run M 478 [.c (.row 0 0 0 l.length),.c (.fn f [.vp cs 0])] [sC l []]=
   some (.c (.row 0 0 0 (l.filter fun m=> !p m).length),[(0,⟨0,7,true,false,(l.filter fun m=> !p m).map af++List.replicate (l.length-(l.filter fun m=> !p m).length) rR⟩)]):=by
 obtain⟨h0,k1⟩:=h;have h1:=aA.gen k1 hf l hl;refine ao (b:=aE.m) h0 ⟨l.length+1, ?_⟩;have e0:(l.map af).length=l.length:=by simp
 cases hq:eE (tC p l) l.length with
 |none=>
  have hall:(l.filter fun m=> !p m)=l:=List.filter_eq_self.2 fun m hm=>by
   obtain⟨j,hj,rfl⟩:=bF hm;have:=mg hq j hj;rw[jO p l j hj] at this;simp[this]
  rw[hall,Nat.sub_self,List.replicate_zero,eM];rw[hq] at h1;simp only[sC,boxes,dN,eM] at h1 ⊢;generalize l.map af=r0 at*;simp (maxSteps:=9^9) [a8,aE.m,aE.b,aa,h1,e0,ab]
 |some k=>
  rw[hq] at h1;obtain⟨hk1,hk2,hk3⟩:=mf hq;rw[jO p l k hk1] at hk2;have ek:lY p l k=l.take k:=by
   refine List.filter_eq_self.2 fun m hm=> ?_
   obtain⟨j,hj,rfl⟩:=bF hm;have hj':j<k:=by simp at hj;omega
   have:=hk3 j hj';rw[jO p l j (by omega)] at this;simp[this]
  have ek1:lY p l (k+1)=l.take k:=by
   simp only[lY,il l k hk1,List.filter_append] at ek ⊢;rw[ek];simp[hk2]
  have el:(lY p l (k+1)).length=k:=by rw[ek1];simp;omega
  obtain⟨r,hr,⟨⟨j,D,n'⟩,rfl,hj,hI⟩⟩:=kC (f:=cy (run M) (l.length+1) aE.l0) (KM f cs p l) (Mn p l) (fun s=>l.length-s.j)
   (fun r=>∃s',r=(.exit 0,NB f cs p l s')∧s'.j=l.length∧Mn p l s') (fun s hs=>I1 hf (l.length+1) l hl s hs) (l.length+1) ⟨k+1,l,2000160⟩
   ⟨by simp only;omega,rfl,by show l.take (lY p l (k+1)).length=lY p l (k+1);rw[el,ek1],rfl,by simp only[el];omega⟩ (by simp only;omega)
  obtain⟨_,hlen,htk,_,hlt⟩:=hI;simp only at hj hlen htk hlt;subst hj;have ef:lY p l l.length=l.filter fun m=> !p m:=by simp[lY]
  rw[ef] at htk hlt;simp only[KM,NB,el,ef] at hr;have e1:(D.map af).length=l.length:=by simpa using hlen
  have e2:(D.map af).take (l.filter fun m=> !p m).length=(l.filter fun m=> !p m).map af:=by rw[←List.map_take,htk]
  have e3:((l.filter fun m=> !p m).map af).length=(l.filter fun m=> !p m).length:=by simp
  have e5:=cz (i:=k) (by omega);have e6:((k+1:Nat):Int)=(k:Int)+1:=by omega
  have e7:¬(k:Int)= -1:=by omega
  rw[e6] at hr;simp only[sC,boxes,dN,eM] at h1 ⊢;generalize (l.filter fun m=> !p m).map af=rf at*;generalize (l.filter fun m=> !p m).length=nf at*;generalize D.map af=rd at*;generalize l.map af=r0 at*;clear hk2 hk3 ek ek1 el hq ef;generalize l.length=N at*;have e8:nf≤N:=by omega
  have e9:¬N=nf:=by omega
  have e10:¬nf=N:=by omega
  have e11:nf+(N-nf)=N:=by omega
  have e12:¬N-nf=0:=by omega
  have e13:List.drop N rd=[]:=eK (by omega);simp (maxSteps:=9^9) [a8,aE.m,aE.b,aa,h1,hr,e0,e1,e2,e3,e5,e7,e8,e10,e11,e12,e13,ab]
def IF(d:Nat):UInt8:=UInt8.ofNat (48+d)
def yg(m:Nat)(acc:List UInt8):List UInt8:=if m=0 then acc else yg (m/10) (IF (m%10)::acc)
termination_by m
decreasing_by omega
theorem sj(acc:List UInt8):yg 0 acc=acc:=by rw[yg];simp
theorem uG{m:Nat}(h:m≠0)(acc:List UInt8):yg m acc=yg (m/10) (IF (m%10)::acc):=by rw[yg,if_neg h]
def dec(n:Int):List UInt8:=if n=0 then [48] else(if n<0 then [45] else [])++yg n.natAbs []
theorem xA:∀(k m:Nat) (acc:List UInt8),m<10^k→(yg m acc).length≤acc.length+k:=by
 intro k
 induction k with
 |zero=>intro m acc h;have:m=0:=by simpa using h
        subst this;rw[sj];omega
 |succ k ih=>
  intro m acc h;by_cases h0:m=0
  ·subst h0;rw[sj];omega
  ·rw[uG h0];have:=ih (m/10) (IF (m%10)::acc) (by rw[Nat.pow_succ] at h;omega);simp at this;omega
theorem Dp{n:Int}(h: -9223372036854775808≤n)(h':n≤9223372036854775807):(dec n).length≤21:=by
 unfold dec;have:=xA 20 n.natAbs [] (by omega);simp at this;split
 ·simp
 ·split<;>simp<;>omega
theorem gU.al(h:gU.k M)(d:Nat)(hd:d<10):run M 247 [.c (I d)] []=some (.c (U8 (IF d).toNat),[]):=by
 refine ao (b:=gU.m) h ⟨0, ?_⟩;have e0:(d:Int)<10:=by omega
 have e1:IntKind.i64.wrap (48+(d:Int))=48+(d:Int):=wrap_i64 (by omega) (by omega);have e2:IntKind.u8.wrap (48+(d:Int))=((IF d).toNat:Int):=by
  unfold IntKind.wrap;simp[IntKind.bits,IntKind.signed,IF]<;>omega
 simp[a8,gU.m,gU.b,aa,e0,e1,e2]
def wB(b:Bool)(s:Int×List UInt8)(x:Nat):St:={t:=[(0,.c (I s.1)),(3,.c (.bool b)),(4,.c (S s.2))],o:=[],n:=x}
def uH(s:Int×List UInt8):Prop:= -9223372036854775808≤s.1∧s.1≤9223372036854775807∧∃k,s.1.natAbs<10^k∧s.2.length+k≤20
theorem vA{n:Int}{acc:List UInt8}(h:uH (n,acc))(h0:n≠0)(b:UInt8):uH (n.tdiv 10,b::acc):=by
 obtain⟨h1,h2,k,h3,h4⟩:=h;simp only at h1 h2 h3 h4;have e:(n.tdiv 10).natAbs=n.natAbs/10:=by rw[Int.natAbs_tdiv];rfl
 cases k with
 |zero=>simp at h3;omega
 |succ k=>exact⟨by simp only;omega,by simp only;omega,k,by simp only;rw[e];rw[Nat.pow_succ] at h3;omega,by simp;omega⟩
theorem tn(n:Int):n.tmod 10=(n.natAbs%10:Nat)∨(n.tmod 10<0∧n.tmod 10= - (n.natAbs%10:Nat)):=by
 have e:(n.tmod 10).natAbs=n.natAbs%10:=by rw[Int.natAbs_tmod];rfl
 omega
theorem cZ.round(h:cZ.k M)(k:Nat)(b:Bool)(s:Int×List UInt8)(x:Nat)(hi:uH s)(h0:s.1≠0):
  ∃y,cy (run M) k cZ.l0 (wB b s x)=some (.normal,wB b (s.1.tdiv 10,IF (s.1.natAbs%10)::s.2) y):=by
 obtain⟨n,acc⟩:=s;obtain⟨h1,h2,k',h3,h4⟩:=hi;simp only at h0 h1 h2 h3 h4;have hf:=gU.al h.2 (n.natAbs%10) (by omega);have ed:(n.tdiv 10).natAbs=n.natAbs/10:=by rw[Int.natAbs_tdiv];rfl
 have e1:IntKind.i64.wrap (n.tdiv 10)=n.tdiv 10:=wrap_i64 (by omega) (by omega);have e2:acc.length+1≤4611686018427387904:=by omega
 have e3:1+acc.length≤4611686018427387904:=by omega
 rcases tn n with ht|⟨ht0,ht⟩
 ·have e0:¬(((n.natAbs%10:Nat):Int)<0):=by omega
  generalize n.natAbs%10=d at*;simp only[wB,cZ.l0];simp (disch:=(first|omega|(simp;done)|(simp;omega))) [h0,ht,hf,e1,e0,fT,lW]
 ·have e0:n.tmod 10<0:=ht0;have e4:IntKind.i64.wrap (0-n.tmod 10)=((n.natAbs%10:Nat):Int):=by rw[wrap_i64 (by omega) (by omega)];omega
  generalize n.natAbs%10=d at*;simp only[wB,cZ.l0];simp only[Int.zero_sub] at e4;simp (disch:=(first|omega|(simp;done)|(simp;omega))) [h0,e0,e4,hf,e1,fT,lW]
theorem cZ.al(h:cZ.k M)(n:Int)(hn: -9223372036854775808≤n)(hn':n≤9223372036854775807):run M 197 [.c (I n)] []=some (.c (S (dec n)),[]):=by
 refine ao (b:=cZ.m) h.1 ⟨n.natAbs+1, ?_⟩;by_cases h0:n=0
 ·simp[a8,cZ.m,cZ.b,aa,h0,dec]
 obtain⟨g,hr⟩:=jP (f:=cy (run M) (n.natAbs+1) cZ.l0) (wB (decide (n<0))) uH (fun s=>s.1.natAbs) (fun s=>yg s.1.natAbs s.2)
  (fun q m=>(.exit 0,{t:=[(0,.c (I 0)),(3,.c (.bool (decide (n<0)))),(4,.c (S q)),(11,.c (.bool false))],o:=[],n:=m}))
  (by
   intro s x hi;by_cases hs:s.1=0
   ·right;exact⟨x+32,by simp[wB,cZ.l0,hs,sj],by simp⟩
   ·left;obtain⟨y,hy⟩:=cZ.round h (n.natAbs+1) (decide (n<0)) s x hi hs;have e:(s.1.tdiv 10).natAbs=s.1.natAbs/10:=by rw[Int.natAbs_tdiv];rfl
    refine⟨_,y,hy,vA hi hs _,by simp only;omega, ?_⟩;simp only[e];exact(uG (by omega) _).symm)
  (n.natAbs+1) (n,[]) ⟨hn,hn',20,by simp only;omega,by simp⟩ (by simp only;omega)
 have hl:=xA 20 n.natAbs [] (by omega);simp[wB] at hr hl;by_cases hneg:n<0
 ·simp[hneg] at hr;simp (disch:=(first|omega|(simp;done)|(simp;omega))) [a8,cZ.m,cZ.b,aa,h0,dec,hneg,hr,fT]
 ·simp[hneg] at hr;simp (disch:=(first|omega|(simp;done)|(simp;omega))) [a8,cZ.m,cZ.b,aa,h0,dec,hneg,hr]
def yM(n:Int)(s:Int×List UInt8)(x:Nat):St:={t:=[(0,.c (I n)),(3,.c (S s.2)),(4,.c (I s.1))],o:=[],n:=x}
theorem KB:∀d:Nat,d<10→∃h:d<16,([48,49,50,51,52,53,54,55,56,57,97,98,99,100,101,102]:List UInt8)[d]=IF d:=by decide
theorem du.round(k:Nat)(n0:Int)(s:Int×List UInt8)(x:Nat)(hi:uH s)(h0:s.1≠0):
  ∃y,cy (run M) k du.l0 (yM n0 s x)=some (.normal,yM n0 (s.1.tdiv 10,IF (s.1.natAbs%10)::s.2) y):=by
 obtain⟨n,acc⟩:=s;obtain⟨h1,h2,k',h3,h4⟩:=hi;simp only at h0 h1 h2 h3 h4;have ed:(n.tdiv 10).natAbs=n.natAbs/10:=by rw[Int.natAbs_tdiv];rfl
 have e1:IntKind.i64.wrap (n.tdiv 10)=n.tdiv 10:=wrap_i64 (by omega) (by omega);have e2:acc.length+1≤4611686018427387904:=by omega
 have e3:1+acc.length≤4611686018427387904:=by omega
 have hd:n.natAbs%10<10:=by omega
 have e5:IntKind.i64.wrap (((n.natAbs%10:Nat):Int)+1)=((n.natAbs%10+1:Nat):Int):=wrap_i64 (by omega) (by omega);have e4:IntKind.i64.wrap (-(n.tmod 10))= -(n.tmod 10):=wrap_i64 (by have:=tn n;omega) (by have:=tn n;omega);have e6:(if n.tmod 10< -(n.tmod 10) then -(n.tmod 10) else n.tmod 10)=((n.natAbs%10:Nat):Int):=by
  rcases tn n with ht|⟨ht0,ht⟩<;>split<;>omega
 generalize n.natAbs%10=d at*;obtain⟨hd16,hfig⟩:=KB d hd;have e7:=BE ([48,49,50,51,52,53,54,55,56,57,97,98,99,100,101,102]:List UInt8) d hd16;rw[hfig] at e7;simp only[List.take_succ_cons] at e7;have e8:d+1≤16:=by omega
 have e9:(0:Int)≤(d:Int)+1:=by omega
 have e10:((d:Int)+1).toNat=d+1:=by omega
 simp only[yM,du.l0];simp (disch:=(first|omega|(simp;done)|(simp;omega))) [h0,e4,e5,e6,e7,e8,e9,e10,e1,fT]
theorem du.al(h:du.k M)(n:Int)(hn: -9223372036854775808≤n)(hn':n≤9223372036854775807):run M 128 [.c (I n)] []=some (.c (S (dec n)),[]):=by
 refine ao (b:=du.m) h ⟨n.natAbs+1, ?_⟩;by_cases h0:n=0
 ·simp[a8,du.m,du.b,aa,h0,dec]
 obtain⟨g,hr⟩:=jP (f:=cy (run M) (n.natAbs+1) du.l0) (yM n) uH (fun s=>s.1.natAbs) (fun s=>yg s.1.natAbs s.2)
  (fun q m=>(.exit 0,{t:=[(0,.c (I n)),(3,.c (S q)),(4,.c (I 0)),(10,.c (.bool false))],o:=[],n:=m}))
  (by
   intro s x hi;by_cases hs:s.1=0
   ·right;exact⟨x+32,by simp[yM,du.l0,hs,sj],by simp⟩
   ·left;obtain⟨y,hy⟩:=du.round (n.natAbs+1) n s x hi hs;have e:(s.1.tdiv 10).natAbs=s.1.natAbs/10:=by rw[Int.natAbs_tdiv];rfl
    refine⟨_,y,hy,vA hi hs _,by simp only;omega, ?_⟩;simp only[e];exact(uG (by omega) _).symm)
  (n.natAbs+1) (n,[]) ⟨hn,hn',20,by simp only;omega,by simp⟩ (by simp only;omega)
 have hl:=xA 20 n.natAbs [] (by omega);simp[yM] at hr hl;by_cases hneg:n<0
 ·simp (disch:=(first|omega|(simp;done)|(simp;omega))) [a8,du.m,du.b,aa,h0,dec,hneg,hr,fT]
 ·simp (disch:=(first|omega|(simp;done)|(simp;omega))) [a8,du.m,du.b,aa,h0,dec,hneg,hr]
def kX(s:List UInt8)(g:Int):List UInt8:=s.take 6++[120]++if 0<g then(dec g).drop ((dec g).length-5) else []
theorem cL.al(h:cL.k M)(s:List UInt8)(g:Int)(hs:s.length≤1048576)(hg:g≤9223372036854775807):run M 484 [.c (S s),.c (I g)] []=some (.c (S (kX s g)),[]):=by
 obtain⟨h0,k1⟩:=h;refine ao (b:=cL.m) h0 ⟨0, ?_⟩;unfold kX;have e0:∀x y:Int,x≤y→(if y<x then y else x)=x:=fun x y h=>by rw[if_neg (by omega)]
 have a1:kH .add (bs s) ⟨#[120]⟩=some (S (s++[120])):=fT s [120] (by simp;omega);have a2:kH .add (bs (s.take 6)) ⟨#[120]⟩=some (S (s.take 6++[120])):=fT (s.take 6) [120] (by simp;omega);by_cases c:0<g
 ·have h1:=du.al k1 g (by omega) hg;have hl:=Dp (n:=g) (by omega) hg;rw[if_pos c];generalize dec g=d at*;have a3:∀k,kH .add (bs (s++[120])) (bs (d.drop k))=some (S (s++[120]++d.drop k)):=fun k=>fT (s++[120]) (d.drop k) (by simp;omega)
  have a4:∀k,kH .add (bs (s.take 6++[120])) (bs (d.drop k))=some (S (s.take 6++[120]++d.drop k)):=fun k=>fT (s.take 6++[120]) (d.drop k) (by simp;omega)
  have a5:=a3 0;have a6:=a4 0;rw[List.drop_zero] at a5 a6;have ed:d.take d.length=d:=List.take_length;have e1:IntKind.i64.wrap ((d.length:Int)-5)=(d.length:Int)-5:=wrap_i64 (by omega) (by omega);by_cases c1:s.length<6
  ·have c1':(s.length:Int)<6:=by omega
   have t1:s.take 6=s:=ab (by omega);by_cases c2:d.length≤5
   ·have c2':¬(5:Int)<(d.length:Int):=by omega
    have e2:d.length-5=0:=by omega
    simp (maxSteps:=9^9) [a8,cL.m,cL.b,aa,h1,c,c1',c2',t1,e1,e2,max2,min2,a1,a5,ed]
   ·have c2':(5:Int)<(d.length:Int):=by omega
    have e3:(0:Int)≤(d.length:Int)-5:=by omega
    have e4:d.length-5≤d.length:=by omega
    have e7:(5:Int)≤(d.length:Int):=by omega
    have e2:((d.length:Int)-5).toNat=d.length-5:=by omega
    simp (maxSteps:=9^9) [a8,cL.m,cL.b,aa,h1,c,c1',c2',t1,e1,e2,e4,e7,max2,min2,a1,a3,ed]
  ·have c1':¬(s.length:Int)<6:=by omega
   have c6:6≤s.length:=by omega
   by_cases c2:d.length≤5
   ·have c2':¬(5:Int)<(d.length:Int):=by omega
    have e2:d.length-5=0:=by omega
    simp (maxSteps:=9^9) [a8,cL.m,cL.b,aa,h1,c,c1',c6,c2',e1,e2,max2,min2,a2,a6,ed]
   ·have c2':(5:Int)<(d.length:Int):=by omega
    have e3:(0:Int)≤(d.length:Int)-5:=by omega
    have e4:d.length-5≤d.length:=by omega
    have e7:(5:Int)≤(d.length:Int):=by omega
    have e2:((d.length:Int)-5).toNat=d.length-5:=by omega
    simp (maxSteps:=9^9) [a8,cL.m,cL.b,aa,h1,c,c1',c6,c2',e1,e2,e4,e7,max2,min2,a2,a4,ed]
 ·rw[if_neg c];by_cases c1:s.length<6
  ·have c1':(s.length:Int)<6:=by omega
   have t1:s.take 6=s:=ab (by omega);simp (maxSteps:=9^9) [a8,cL.m,cL.b,aa,c,c1',t1,min2,a1]
  ·have c1':¬(s.length:Int)<6:=by omega
   have c6:6≤s.length:=by omega
   simp (maxSteps:=9^9) [a8,cL.m,cL.b,aa,c,c1',min2,a2,c6]
theorem cE.al(h:cE.k M)(s:List UInt8)(g:Int)(hs:s.length≤1048576)(hg:g≤9223372036854775807):run M 475 [.c (S s),.c (I g)] []=some (.c (S (kX s g)),[]):=by
 obtain⟨h0,k1⟩:=h;refine ao (b:=cE.m) h0 ⟨0, ?_⟩;unfold kX;obtain⟨t,ht,hl6,hcase⟩:∃t,t=s.take 6∧t.length≤6∧((6<s.length)∨(¬6<s.length∧t=s)):=⟨s.take 6,rfl,by simp;omega,by
  by_cases c:6<s.length
  ·exact .inl c
  ·exact .inr ⟨c,ab (by omega)⟩⟩
 rw[←ht];have a1:kH .add (bs t) ⟨#[120]⟩=some (S (t++[120])):=fT t [120] (by simp;omega);have a0:kH .add (bs (t++[120])) ⟨#[]⟩=some (S (t++[120])):=by
  have:=fT (t++[120]) [] (by simp;omega);rw[eM] at this;exact this
 by_cases c:0<g
 ·have h1:=cZ.al k1 g (by omega) hg;have hl:=Dp (n:=g) (by omega) hg;rw[if_pos c];generalize dec g=d at*;have e1:IntKind.i64.wrap ((d.length:Int)-5)=(d.length:Int)-5:=wrap_i64 (by omega) (by omega);have a3:∀k,kH .add (bs (t++[120])) (bs (d.drop k))=some (S (t++[120]++d.drop k)):=fun k=>fT (t++[120]) (d.drop k) (by simp;omega)
  have a5:=a3 0;rw[List.drop_zero] at a5;have ed:d.take d.length=d:=List.take_length;rcases hcase with q|⟨q,q2⟩
  ·have q1:6≤s.length:=by omega
   have q3:(6:Int)<(s.length:Int):=by omega
   by_cases c2:d.length≤5
   ·have c2':¬(5:Int)<(d.length:Int):=by omega
    have c3:¬5<d.length:=by omega
    have e2:d.length-5=0:=by omega
    simp (maxSteps:=9^9) [a8,cE.m,cE.b,aa,h1,c,q1,q3,←ht,c2',e2,a1,a5]
   ·have c2':(5:Int)<(d.length:Int):=by omega
    have c3:5<d.length:=by omega
    have e2:((d.length:Int)-5).toNat=d.length-5:=by omega
    have e4:d.length-5≤d.length:=by omega
    have e7:(5:Int)≤(d.length:Int):=by omega
    simp (maxSteps:=9^9) [a8,cE.m,cE.b,aa,h1,c,q1,q3,←ht,c2',e1,e2,e4,e7,a1,a3,ed]
  ·subst q2;have q3:¬(6:Int)<(t.length:Int):=by omega
   by_cases c2:d.length≤5
   ·have c2':¬(5:Int)<(d.length:Int):=by omega
    have c3:¬5<d.length:=by omega
    have e2:d.length-5=0:=by omega
    simp (maxSteps:=9^9) [a8,cE.m,cE.b,aa,h1,c,q3,c2',e2,a1,a5]
   ·have c2':(5:Int)<(d.length:Int):=by omega
    have c3:5<d.length:=by omega
    have e2:((d.length:Int)-5).toNat=d.length-5:=by omega
    have e4:d.length-5≤d.length:=by omega
    have e7:(5:Int)≤(d.length:Int):=by omega
    simp (maxSteps:=9^9) [a8,cE.m,cE.b,aa,h1,c,q3,c2',e1,e2,e4,e7,a1,a3,ed]
 ·rw[if_neg c];rcases hcase with q|⟨q,q2⟩
  ·have q1:6≤s.length:=by omega
   have q3:(6:Int)<(s.length:Int):=by omega
   simp (maxSteps:=9^9) [a8,cE.m,cE.b,aa,c,q1,q3,←ht,a1,a0]
  ·subst q2;have q3:¬(6:Int)<(t.length:Int):=by omega
   simp (maxSteps:=9^9) [a8,cE.m,cE.b,aa,c,q3,a1,a0]
def me(l:List bz)(g:Int):Option Nat:=eE (tC (fun b:bz=>decide (b.gid=g)) l) l.length
def kV(l:List bz)(g:Int):Option bz:=l.find? fun b=>decide (b.gid=g)
theorem iO{l:List bz}{g:Int}{k:Nat}(h:me l g=some k):∃hk:k<l.length,kV l g=some l[k]:=by
 obtain⟨h1,h2,h3⟩:=mf h;refine⟨h1, ?_⟩;unfold kV;rw[List.find?_eq_some_iff_getElem];rw[jO _ _ _ h1] at h2;refine⟨h2,k,h1,rfl,fun j hj=> ?_⟩;have:=h3 j hj;rw[jO _ _ _ (by omega)] at this;simp only[this,Bool.not_false]
theorem o9{l:List bz}{g:Int}(h:me l g=none):kV l g=none:=by
 unfold kV;rw[List.find?_eq_none];intro b hb;obtain⟨j,hj,rfl⟩:=bF hb;have:=mg h j hj;rw[jO _ _ _ hj] at this;simp only[this];decide
theorem e_.al(h:e_.k M)(b:bz)(g:Int):run M 477 [.a (af b),.c (.vp [I g] 0)] []=some (.c (.bool (decide (b.gid=g))),[]):=by
 refine ao (b:=e_.m) h ⟨0, ?_⟩;simp (maxSteps:=9^9) [a8,e_.m,e_.b,aa,af]
theorem fa.al(h:fa.k M)(l:List bz)(g:Int)(hl:l.length≤1048576):run M 476 [.c (boxes l),.c (I g)] []=some (.c (I (dN (me l g))),[]):=by
 have h1:=aA.gen h.2.1 (fun b=>e_.al h.2.2 b g) l hl;refine ao (b:=fa.m) h.1 ⟨0, ?_⟩;unfold me;simp only[boxes] at h1 ⊢;generalize l.map af=r at*;simp (maxSteps:=9^9) [a8,fa.m,fa.b,aa,h1]
theorem fC.al(h:fC.k M)(b:bz)(G:List Int)(hG:G.length≤4194304):run M 479 [.a (af b),.c (.vp [ints G] 0)] []=some (.c (.bool (decide (b.gid∈G))),[]):=by
 have h1:=aL.al h.2 G b.gid (by omega);refine ao (b:=fC.m) h.1 ⟨0, ?_⟩;simp only[ints] at h1 ⊢;generalize ax G=g at*;simp (maxSteps:=9^9) [a8,fC.m,fC.b,aa,h1,af]
theorem fA.al(h:fA.k M)(y x:bz):run M 483 [.a (af y),.c (.vp (af x) 0)] []=some (.c (.bool (decide (y.name=x.name))),[]):=by
 refine ao (b:=fA.m) h ⟨0, ?_⟩;simp (maxSteps:=9^9) [a8,fA.m,fA.b,aa,af]
theorem bj.al(h:bj.k M){f:Nat}{cs:List T}{p:bz→Bool}(hf:∀m,run M f [.a (af m),.c (.vp cs 0)] []=some (.c (.bool (p m)),[]))(l:List bz)(hl:l.length≤1048576):
  run M 482 [.c (boxes l),.c (.fn f [.vp cs 0])] []=some (.c (.bool (l.any p)),[]):=by
 have h1:=aA.gen h.2 hf l hl;have e:(decide ((0:Int)≤dN (eE (tC p l) l.length)))=l.any p:=by
  cases q:eE (tC p l) l.length with
  |none=>
   have hn:=mg q;have:l.any p=false:=by
    rw[List.any_eq_false];intro b hb;obtain⟨j,hj,rfl⟩:=bF hb;have:=hn j hj;rw[jO _ _ _ hj] at this;simp[this]
   rw[this];decide
  |some k=>
   obtain⟨h1,h2,_⟩:=mf q;rw[jO _ _ _ h1] at h2;have:l.any p=true:=List.any_eq_true.2 ⟨_,ar h1,h2⟩;rw[this];exact decide_eq_true (Int.natCast_nonneg k)
 refine ao (b:=bj.m) h.1 ⟨0, ?_⟩;rw[←e];simp only[boxes] at h1 ⊢;generalize l.map af=r at*;simp (maxSteps:=9^9) [a8,bj.m,bj.b,aa,h1]
def K_(l:List bz)(g:Int)(i:Nat)(x:Nat):St:={t:=[(0,.c (boxes l)),(1,.c (I g)),(5,.c (I i))],o:=[],n:=x}
theorem gi.al(h:gi.k M)(l:List bz)(g:Int)(hl:l.length≤1048576):run M 474 [.c (boxes l),.c (I g)] []=some (.c (I (dN (me l g))),[]):=by
 refine ao (b:=gi.m) h ⟨l.length+1, ?_⟩;obtain⟨g',hr⟩:=mW (f:=cy (run M) (l.length+1) gi.l0) l.length (tC (fun b:bz=>decide (b.gid=g)) l) (K_ l g) jU po
  (fun i hi x c=>by
   rw[jO _ _ _ hi] at c;simp only[decide_eq_false_iff_not] at c;have e5:=cz (i:=i) (by omega);simp[K_,gi.l0,hi,c,af,e5])
  (fun i hi x c=>by
   rw[jO _ _ _ hi] at c;simp only[decide_eq_true_eq] at c;simp[K_,gi.l0,hi,c,af,jU];exact⟨⟨[],[],_⟩,rfl⟩)
  (fun x=>by simp[K_,gi.l0,jU])
 unfold me;cases hm:eE (tC (fun b:bz=>decide (b.gid=g)) l) l.length with
 |none=>
  simp[K_,hm,jU] at hr;simp[a8,gi.m,gi.b,aa,hr,dN]
 |some k=>
  simp[K_,hm,jU] at hr;simp[a8,gi.m,gi.b,aa,hr,dN]
abbrev dv(R:List (List T))(i:Nat)(h:Int):Nat×Ob:=(0,⟨0,3,true,true,[[.sl false 1 R,I i,I h]]⟩)
def Bytes(R:List (List T)):Prop:=R.length≤1048576∧∀(i:Nat) (r:List T),R[i]? =some r→∃n:Int,r=[.int .u8 n]
theorem Dz(x:Int):∃n:Nat,n<256∧ud .i64 x 255=(n:Int):=by
 rw[wh];refine⟨(x%((2^IntKind.i64.bits:Nat):Int)).toNat&&&255, ?_, ?_⟩
 ·have:(x%((2^IntKind.i64.bits:Nat):Int)).toNat&&&255≤255:=Nat.and_le_right;omega
 ·have h:(x%((2^IntKind.i64.bits:Nat):Int)).toNat&&&255≤255:=Nat.and_le_right;have e:((255:Int)%((2^IntKind.i64.bits:Nat):Int)).toNat=255:=by decide
  rw[e];exact wrap_i64 (by omega) (by omega)
theorem eW.al(h:eW.k M){R:List (List T)}(hR:Bytes R)(i:Nat)(q:Int)(hi:i≤R.length):
  ∃(x i':Nat) (q':Int),x<256∧i'≤R.length∧run M 131 [.c (.ptr 0 0 0 0)] [dv R i q]=some (.c (I x),[dv R i' q']):=by
 obtain⟨hl,hb⟩:=hR;obtain⟨q1,hq1⟩:∃q1,IntKind.i64.wrap (IntKind.i64.wrap (q*6364136223846793005)+1442695040888963407)=q1:=⟨_,rfl⟩
 obtain⟨x,hx,e1⟩:=Dz (Aa .i64 (q1.fdiv ((2:Int)^min 33 IntKind.i64.bits)) (q1.fdiv ((2:Int)^min 45 IntKind.i64.bits)));by_cases hlt:i<R.length
 ·obtain⟨n,hn⟩:=hb i R[i] (bW hlt);obtain⟨y,hy,e2⟩:=Dz (IntKind.i64.wrap (x+IntKind.i64.wrap n));refine⟨y,i+1,q1,hy,by omega, ?_⟩;refine ao (b:=eW.m) h ⟨0, ?_⟩;have e3:=cz (i:=i) (by omega);simp (maxSteps:=9^9) [a8,eW.m,eW.b,aa,setAt,hq1,e1,e2,e3,hlt,hn]
 ·refine⟨x,i,q1,hx,hi, ?_⟩;refine ao (b:=eW.m) h ⟨0, ?_⟩;simp (maxSteps:=9^9) [a8,eW.m,eW.b,aa,setAt,hq1,e1,hlt]
theorem kG(x n:Nat)(hn:0<n):∃y:Nat,y<n∧((x:Int).tmod (n:Int))=(y:Int):=⟨x%n,Nat.mod_lt _ hn,by rw[Int.tmod_eq_emod_of_nonneg (by omega)];rfl⟩
theorem aG.al(h:aG.k M){R:List (List T)}(hR:Bytes R)(i:Nat)(q:Int)(hi:i≤R.length)(n:Nat)(hn:0<n)(hn2:n≤1000000000):
  ∃(x i':Nat) (q':Int),x<n∧i'≤R.length∧run M 125 [.c (.ptr 0 0 0 0),.c (I n)] [dv R i q]=some (.c (I x),[dv R i' q']):=by
 obtain⟨h0,k1⟩:=h;have n0:¬(n:Int)≤0:=by omega
 have n1:¬n=0:=by omega
 obtain⟨x1,i1,q1,hx1,hi1,h1⟩:=eW.al k1 hR i q hi;by_cases hs:n≤256
 ·have hs2:(n:Int)≤256:=by omega
  obtain⟨y,hy,e⟩:=kG x1 n hn;refine⟨y,i1,q1,hy,hi1, ?_⟩;refine ao (b:=aG.m) h0 ⟨0, ?_⟩;simp (maxSteps:=9^9) [a8,aG.m,aG.b,aa,h1,n1,hs2,e]
 ·have hs2:¬(n:Int)≤256:=by omega
  obtain⟨x2,i2,q2,hx2,hi2,h2⟩:=eW.al k1 hR i1 q1 hi1;obtain⟨x3,i3,q3,hx3,hi3,h3⟩:=eW.al k1 hR i2 q2 hi2;obtain⟨x4,i4,q4,hx4,hi4,h4⟩:=eW.al k1 hR i3 q3 hi3;have w1:IntKind.i64.wrap ((x1:Int)*16777216)=((x1*16777216:Nat):Int):=wrap_i64 (by omega) (by omega);have w2:IntKind.i64.wrap ((x2:Int)*65536)=((x2*65536:Nat):Int):=wrap_i64 (by omega) (by omega);have w3:IntKind.i64.wrap ((x3:Int)*256)=((x3*256:Nat):Int):=wrap_i64 (by omega) (by omega);obtain⟨y1,hy1⟩:∃y1,x1*16777216=y1:=⟨_,rfl⟩
  obtain⟨y2,hy2⟩:∃y2,x2*65536=y2:=⟨_,rfl⟩
  obtain⟨y3,hy3⟩:∃y3,x3*256=y3:=⟨_,rfl⟩
  rw[hy1] at w1;rw[hy2] at w2;rw[hy3] at w3;have w4:IntKind.i64.wrap ((y1:Int)+y2)=((y1+y2:Nat):Int):=wrap_i64 (by omega) (by omega);obtain⟨z1,hz1⟩:∃z1,y1+y2=z1:=⟨_,rfl⟩
  rw[hz1] at w4;have w5:IntKind.i64.wrap ((z1:Int)+y3)=((z1+y3:Nat):Int):=wrap_i64 (by omega) (by omega);obtain⟨z2,hz2⟩:∃z2,z1+y3=z2:=⟨_,rfl⟩
  rw[hz2] at w5;have w6:IntKind.i64.wrap ((z2:Int)+x4)=((z2+x4:Nat):Int):=wrap_i64 (by omega) (by omega);obtain⟨z3,hz3⟩:∃z3,z2+x4=z3:=⟨_,rfl⟩
  rw[hz3] at w6;obtain⟨y,hy,e⟩:=kG z3 n hn;refine⟨y,i4,q4,hy,hi4, ?_⟩;refine ao (b:=aG.m) h0 ⟨0, ?_⟩;simp (maxSteps:=9^9) [a8,aG.m,aG.b,aa,h1,h2,h3,h4,w1,w2,w3,w4,w5,w6,n1,hs2,e]
theorem dG.al(h:dG.k M){R:List (List T)}(hR:Bytes R)(i:Nat)(q:Int)(hi:i≤R.length)(ss:List (List UInt8))(h0:0<ss.length)(hn:ss.length≤256):
  ∃(s:List UInt8) (i':Nat) (q':Int),s∈ss∧i'≤R.length∧run M 185 [.c (.ptr 0 0 0 0),.c (.sl false 1 (ss.map fun s=>[S s]))] [dv R i q]=some (.c (S s),[dv R i' q']):=by
 obtain⟨hm,k1⟩:=h;obtain⟨x,i1,q1,hx,hi1,h1⟩:=aG.al k1 hR i q hi ss.length h0 (by omega);refine⟨ss[x],i1,q1,ar hx,hi1, ?_⟩;refine ao (b:=dG.m) hm ⟨0, ?_⟩;simp (maxSteps:=9^9) [a8,dG.m,dG.b,aa,h1,hx]
theorem eO.al(h:eO.k M){R:List (List T)}(hR:Bytes R)(i:Nat)(q:Int)(hi:i≤R.length):
  ∃(t w i':Nat) (q':Int),t<12∧1≤w∧w≤2∧i'≤R.length∧run M 232 [.c (.ptr 0 0 0 0)] [dv R i q]=some (.a [I t,I w],[dv R i' q']):=by
 obtain⟨hm,k1⟩:=h;obtain⟨x,i1,q1,hx,hi1,h1⟩:=aG.al k1 hR i q hi 12 (by omega) (by omega);obtain⟨y,i2,q2,hy,hi2,h2⟩:=aG.al k1 hR i1 q1 hi1 2 (by omega) (by omega);simp only[aM] at h1 h2;have e:IntKind.i64.wrap (1+(y:Int))=((1+y:Nat):Int):=wrap_i64 (by omega) (by omega);refine⟨x,1+y,i2,q2,hx,by omega,by omega,hi2, ?_⟩;refine ao (b:=eO.m) hm ⟨0, ?_⟩;simp (maxSteps:=9^9) [a8,eO.m,eO.b,aa,setAt,h1,h2,e]
def BD:List (List UInt8):=[[104,101,108,108,111],[104,105,10],[],[116,101,120,116,32,111,102,32,105,116],[0,255],[97,32,98]]
theorem eU.al(h:eU.k M){R:List (List T)}(hR:Bytes R)(i:Nat)(q:Int)(hi:i≤R.length):
  ∃(s:List UInt8) (i':Nat) (q':Int),s.length≤60∧i'≤R.length∧run M 174 [.c (.ptr 0 0 0 0)] [dv R i q]=some (.c (S s),[dv R i' q']):=by
 obtain⟨hm,k1⟩:=h;obtain⟨s,i1,q1,hs,hi1,h1⟩:=dG.al k1 hR i q hi BD (by decide) (by decide);refine⟨s,i1,q1, ?_,hi1, ?_⟩
 ·have:∀s∈BD,s.length≤60:=by decide
  exact this s hs
 ·refine ao (b:=eU.m) hm ⟨0, ?_⟩;simp only[BD,bB,bJ] at h1 ⊢;simp (maxSteps:=9^9) [a8,eU.m,eU.b,aa,h1]
def Cv(R:List (List T))(i:Nat):Int:=match R[i]? with
 |some [.int _ n]=>IntKind.i64.wrap n
 |_=>0
def IA(R:List (List T)):Nat→Int
 |0=>77201+R.length
 |i+1=>ud .i64 (IntKind.i64.wrap (IntKind.i64.wrap (IntKind.i64.wrap (IA R i*131)+Cv R i)+7)) 1073741823
def Db(R:List (List T)):Nat:=min R.length 4000
def MI(R:List (List T))(i:Nat)(x:Nat):St:={t:=[(0,.c (.sl false 1 R)),(3,.c (I (IA R i))),(4,.c (I i))],o:=[],n:=x}
def Nl(R:List (List T))(x:Nat):St:={t:=[(0,.c (.sl false 1 R)),(3,.c (I (IA R (Db R)))),(4,.c (I (Db R))),(15,.c (.bool false))],o:=[],n:=x}
theorem fM.al(h:fM.k M){R:List (List T)}(hR:Bytes R):
  ∃q:Int,run M 124 [.c (.sl false 1 R)] []=some (.c (.vp [.sl false 1 R,I 0,I q] 0),[]):=by
 refine⟨IA R (Db R),ao (b:=fM.m) h ⟨Db R+1, ?_⟩⟩;have hl:=hR.1;obtain⟨g,hr⟩:=lh (f:=cy (run M) (Db R+1) fM.l0) (Db R) (MI R) 0 (Nl R)
  (fun i hi x=>by
   have h1:i<R.length:=by unfold Db at hi;omega
   have h2:i<4000:=by unfold Db at hi;omega
   have h3:(i:Int)<4000:=by omega
   obtain⟨n,hn⟩:=hR.2 i R[i] (bW h1);have hb:Cv R i=IntKind.i64.wrap n:=by simp[Cv,h1,hn]
   have e3:=cz (i:=i) (by omega);simp only[MI,IA,hb];generalize IA R i=q;simp (maxSteps:=9^9) [fM.l0,h1,h3,hn,e3])
  (fun x=>by
   simp only[MI,Nl];generalize IA R (Db R)=q;by_cases c:R.length<4000
   ·have e:Db R=R.length:=by unfold Db;omega
    rw[e];simp (maxSteps:=9^9) [fM.l0]
   ·have e:Db R=4000:=by unfold Db;omega
    rw[e];simp only[aM];by_cases c2:4000<R.length
    ·have c3:(4000:Int)<(R.length:Int):=by omega
     simp (maxSteps:=9^9) [fM.l0,c3]
    ·have c3:¬(4000:Int)<(R.length:Int):=by omega
     simp (maxSteps:=9^9) [fM.l0,c3])
 simp only[MI,Nl,IA] at hr;generalize IA R (Db R)=q at*;simp at hr;have e:IntKind.i64.wrap (77201+(R.length:Int))=77201+(R.length:Int):=wrap_i64 (by omega) (by omega);simp (maxSteps:=9^9) [a8,fM.m,fM.b,aa,setAt,hr,e]
structure NN where
 i:Nat
 rows:List (List T)
 v:Nat
 vc:Nat
 ic:Nat
 q:Int
 n:Nat
theorem NN.ex{p:NN→Prop}:(∃s,p s)↔∃i rows v vc ic q n,p ⟨i,rows,v,vc,ic,q,n⟩:=⟨fun⟨⟨i,rows,v,vc,ic,q,n⟩,h⟩=>⟨i,rows,v,vc,ic,q,n,h⟩,fun⟨i,rows,v,vc,ic,q,n,h⟩=>⟨⟨i,rows,v,vc,ic,q,n⟩,h⟩⟩
theorem cP.al(h:cP.k M)(l:List mB)(n t w:Int)(hl:l.length≤1048576):run M 182 [.c (jE l),.c (I n),.a [I t,I w]] []=some (.c (.sl true 3 ((lU l n t w).map aF)),[]):=by
 obtain⟨h0,k1,k2,k3,k4⟩:=h;have h1:=fV.al k1 n;have h2:=dL.al k2 l hl;have h3:=gM.al k3 l hl;refine ao (b:=cP.m) h0 ⟨4, ?_⟩;have e7:(l.map aF).length=l.length:=by simp
 have e8:(l.map aF).all (fun r=>r.all T.scalar)=true:=by simp[T.scalar]
 unfold lU;simp only[jE] at*;cases c1:jZ l
 ·simp only[ay,false_and,if_false];generalize l.map aF=r at*;simp (maxSteps:=9^9) [a8,cP.m,cP.b,aa,h2,h3,c1,e7,e8,ab]
 cases c2:kD 0 n 7
 ·simp only[ay,and_false,if_false];generalize l.map aF=r at*;simp (maxSteps:=9^9) [a8,cP.m,cP.b,aa,h1,h2,h3,c1,c2,e7,e8,ab]
 have hl3:=(oS c1).1;obtain⟨g,hr⟩:=lh (f:=cy (run M) 4 cP.l0) l.length (K0 l n t w) 0 (M8 l n t w)
  (fun i hi x=>cP.JO k4 l n t w 4 i hl3 hi x)
  (fun x=>by
   obtain⟨v,u,x⟩:=x;simp only[K0,M8,aH];generalize (j9 l n t w l.length).map aF=rr;simp (maxSteps:=9^9) [cP.l0])
 have e9:((j9 l n t w l.length).map aF).length=l.length:=by simp[rY]
 simp only[true_and,if_true];rw[←yz];simp only[K0,M8,wC] at hr;generalize (j9 l n t w l.length).map aF=rr at*;generalize l.map aF=r at*;simp[hl3] at hr;simp (maxSteps:=9^9) [a8,cP.m,cP.b,aa,hr,h1,h2,h3,c1,c2,e7,e8,e9,hl3,ab]
def KZ(l:List mB)(n t w:Int)(i:Nat)(x:Nat×Nat×Nat):St:={t:=[(1,.c (I n)),(5,.c (.ptr 5 x.1 0 0)),(7,.c (.row 11100 x.2.1 0 l.length)),(8,.c (I i))],o:=[(5,⟨x.1,2,true,true,[[I t,I w]]⟩),(11100,⟨x.2.1,3,true,false,(j9 l n t w i).map aF⟩)],n:=x.2.2}
def M7(l:List mB)(n t w:Int)(x:Nat×Nat×Nat):St:={t:=[(1,.c (I n)),(5,.c (.ptr 5 x.1 0 0)),(7,.c (.row 11100 x.2.1 0 l.length)),(8,.c (I l.length)),(24,.c (.bool false))],o:=[(5,⟨x.1,2,true,true,[[I t,I w]]⟩),(11100,⟨x.2.1,3,true,false,(j9 l n t w l.length).map aF⟩)],n:=x.2.2}
theorem cO.JO(k:jc.k M)(l:List mB)(n t w:Int)(K i:Nat)(hn:0≤n)(hl:l.length=3)(hi:i<l.length)(x:Nat×Nat×Nat):
  ∃y,cy (run M) K cO.l0 (KZ l n t w i x)=some (.normal,KZ l n t w (i+1) y):=by
 obtain⟨v,u,x⟩:=x;have e5:=cz (i:=i) (by omega);have h1:=jc.al k l[i] (nN n i) t w;have hlen:((j9 l n t w i).map aF).length=l.length:=by simp[rY]
 have hi2:i<((j9 l n t w i).map aF).length:=by omega
 have hat:((j9 l n t w i).map aF)[i]'hi2=aF l[i]:=by rw[fb,Ao]
 have hset:(j9 l n t w (i+1)).map aF=((j9 l n t w i).map aF).set i (aF (oN n t w i l[i])):=by rw[wD _ _ _ _ _ hi,fR]
 have hmin:Min.min i 64=i:=by omega
 have hu:IntKind.u64.wrap (i:Int)=i:=by unfold IntKind.wrap;simp[IntKind.bits,IntKind.signed];omega
 have hdiv:0≤n.fdiv ((2^i:Nat):Int):=Int.fdiv_nonneg hn (Int.natCast_nonneg _);have hbit:(n.fdiv ((2^i:Nat):Int)).tmod 2=nN n i:=by
  unfold nN;exact Int.tmod_eq_emod_of_nonneg hdiv
 have hbit2:(n.fdiv (2^i)).tmod 2=nN n i:=by rw[←hbit];norm_cast
 have hii:(i:Int)<3:=by omega
 have h3:i<3:=by omega
 have hng:¬(i:Int)<0:=by omega
 simp only[KZ,hset,oN,aH];generalize (j9 l n t w i).map aF=rr at*;simp only[aF] at h1 hat;by_cases c:l[i].val=nN n i
 ·rw[if_pos c];have hself:rr.set i [I l[i].val,I l[i].time,I l[i].eD]=rr:=by
   apply List.ext_getElem?;intro j;rw[List.getElem?_set];split
   ·rename_i hj;subst hj;simp[hi2,hat]
   ·rfl
  rw[hself];simp (maxSteps:=9^9) [cO.l0,aa,hl,hlen,hat,e5,hu,hmin,hbit2,hii,h3,hng,c,IntKind.bits]
 ·rw[if_neg c];simp (maxSteps:=9^9) [cO.l0,aa,setAt,hl,hlen,hat,e5,hu,hmin,hbit2,hii,h3,hng,c,h1,aF,IntKind.bits]
theorem cO.al(h:cO.k M)(l:List mB)(n t w:Int)(hl:l.length≤1048576):run M 184 [.c (jE l),.c (I n),.a [I t,I w]] []=some (.c (.sl true 3 ((lU l n t w).map aF)),[]):=by
 obtain⟨h0,k1,k3,k2,k4⟩:=h;have h1:=bY.kD k1 n 0 7;have h2:=dJ.al k2 l hl;have h3:=h_.al k3 l hl;refine ao (b:=cO.m) h0 ⟨4, ?_⟩;have e7:(l.map aF).length=l.length:=by simp
 have e8:(l.map aF).all (fun r=>r.all T.scalar)=true:=by simp[T.scalar]
 unfold lU;simp only[jE] at*;cases c1:jZ l
 ·simp only[ay,false_and,if_false];generalize l.map aF=r at*;simp (maxSteps:=9^9) [a8,cO.m,cO.b,aa,h2,h3,c1,e7,e8,ab]
 cases c2:kD 0 n 7
 ·simp only[ay,and_false,if_false];generalize l.map aF=r at*;simp (maxSteps:=9^9) [a8,cO.m,cO.b,aa,h1,h2,h3,c1,c2,e7,e8,ab]
 have hl3:=(oS c1).1;obtain⟨g,hr⟩:=lh (f:=cy (run M) 4 cO.l0) l.length (KZ l n t w) 0 (M7 l n t w)
  (fun i hi x=>cO.JO k4 l n t w 4 i (i_.1 c2).1 hl3 hi x)
  (fun x=>by
   obtain⟨v,u,x⟩:=x;simp only[KZ,M7,aH];generalize (j9 l n t w l.length).map aF=rr;simp (maxSteps:=9^9) [cO.l0,aa])
 have e9:((j9 l n t w l.length).map aF).length=l.length:=by simp[rY]
 simp only[true_and,if_true];rw[←yz];simp only[KZ,M7,wC] at hr;generalize (j9 l n t w l.length).map aF=rr at*;generalize l.map aF=r at*;simp[hl3] at hr;simp (maxSteps:=9^9) [a8,cO.m,cO.b,aa,hr,h1,h2,h3,c1,c2,e7,e8,e9,hl3,ab]
def jJ(b:bz)(g n t w:Int):bz×Bool:=match gh b.ae g with
 |none=>(b,false)
 |some k=>match b.ae[k]? with
  |none=>(b,false)
  |some m=>if fQ b=true∧kD 0 n 7=true∧kz t w=true then({b with ae:=b.ae.set k {m with flags:=lU m.flags n t w}},true) else(b,false)
theorem tG{l:List bp}{g:Int}{k:Nat}(h:gh l g=some k):k<l.length:=uO l g _ _ _ h
theorem dR.al(h:dR.k M)(b:bz)(hb:iw b)(g n t w:Int):run M 83 [.a (af b),.c (I g),.c (I n),.a [I t,I w]] []=some (.lL [.a (bM (jJ b g n t w).1),.c (.bool (jJ b g n t w).2)],[]):=by
 obtain⟨h0,k1,k2,k3,k4,k5,k6⟩:=h;have h1:=cJ.al k1 b g hb.m;have h2:=bI.al k2 b hb.ok.1 hb.ok.2.1 hb.ok.2.2.1 hb.ok.2.2.2;have h3:=fV.al k3 n;have h4:=cA.al k4 b hb;have h5:=gJ.al k5 t w;refine ao (b:=dR.m) h0 ⟨0, ?_⟩;have e7:(b.ae.map ah).length=b.ae.length:=by simp
 have e8:=aI b.gone;unfold jJ;cases hk:gh b.ae g with
 |none=>
  rw[hk] at h1;simp only[dN] at h1;simp only[af,bM,ae,ints] at*;generalize fQ b=ok at*;generalize b.ae.map ah=rm at*;generalize ax b.gone=rg at*;cases ok<;>simp (maxSteps:=9^9) [a8,dR.m,dR.b,aa,setAt,h1,h2,h4,e7,e8,ab]
 |some k=>
  have hlt:=tG hk;rw[hk] at h1;simp only[dN] at h1;have h6:=cP.al k6 b.ae[k].flags n t w (hb.f _ (ar hlt));have hat:(b.ae.map ah)[k]'(by rw[e7];exact hlt)=[I b.ae[k].gid,I b.ae[k].uid,jE b.ae[k].flags,S b.ae[k].text]:=by rw[fb]
  have hset:(b.ae.set k {b.ae[k] with flags:=lU b.ae[k].flags n t w}).map ah=(b.ae.map ah).set k [I b.ae[k].gid,I b.ae[k].uid,.sl false 3 ((lU b.ae[k].flags n t w).map aF),S b.ae[k].text]:=by rw[fR]
  have hng:¬(k:Int)<0:=by omega
  simp only[bW hlt];cases c1:fQ b
  ·rw[c1] at h2;simp only[ay,false_and,if_false];simp only[af,bM,ae,ints] at*;generalize b.ae.map ah=rm at*;generalize ax b.gone=rg at*;simp (maxSteps:=9^9) [a8,dR.m,dR.b,aa,setAt,h1,h2,h4,e7,e8,ab]
  rw[c1] at h2;cases c2:kD 0 n 7
  ·rw[c2] at h3;simp only[ay,false_and,and_false,if_false];simp only[af,bM,ae,ints] at*;generalize b.ae.map ah=rm at*;generalize ax b.gone=rg at*;simp (maxSteps:=9^9) [a8,dR.m,dR.b,aa,setAt,h1,h2,h3,h4,e7,e8,hng,ab]
  rw[c2] at h3;cases c3:kz t w
  ·rw[c3] at h5;simp only[ay,and_false,if_false];simp only[af,bM,ae,ints] at*;generalize b.ae.map ah=rm at*;generalize ax b.gone=rg at*;simp (maxSteps:=9^9) [a8,dR.m,dR.b,aa,setAt,h1,h2,h3,h4,h5,e7,e8,hng,ab]
  rw[c3] at h5;simp only[and_self,if_true];simp only[af,bM,ae,ints,hset] at*;generalize b.ae.map ah=rm at*;generalize ax b.gone=rg at*;simp (maxSteps:=9^9) [a8,dR.m,dR.b,aa,setAt,h1,h2,h3,h4,h5,h6,e7,e8,hng,hlt,hat,ab]
theorem de.al(h:de.k M)(b:bz)(hb:iw b)(g n t w:Int):run M 84 [.a (af b),.c (I g),.c (I n),.a [I t,I w]] []=some (.lL [.a (bM (jJ b g n t w).1),.c (.bool (jJ b g n t w).2)],[]):=by
 obtain⟨h0,k2,k1,k3,k4,k5,k6⟩:=h;have h1:=bP.al k1 b g hb.m;have h2:=bD.al k2 b hb.ok.1 hb.ok.2.1 hb.ok.2.2.1 hb.ok.2.2.2;have h3:=bY.kD k3 n 0 7;have h4:=b5.al k4 b hb;have h5:=gH.al k5 t w;refine ao (b:=de.m) h0 ⟨0, ?_⟩;have e7:(b.ae.map ah).length=b.ae.length:=by simp
 have e8:=aI b.gone;unfold jJ;cases hk:gh b.ae g with
 |none=>
  rw[hk] at h1;simp only[dN] at h1;simp only[af,bM,ae,ints] at*;generalize fQ b=ok at*;generalize b.ae.map ah=rm at*;generalize ax b.gone=rg at*;cases ok<;>simp (maxSteps:=9^9) [a8,de.m,de.b,aa,setAt,h1,h2,h4,e7,e8,ab]
 |some k=>
  have hlt:=tG hk;rw[hk] at h1;simp only[dN] at h1;have h6:=cO.al k6 b.ae[k].flags n t w (hb.f _ (ar hlt));have hat:(b.ae.map ah)[k]'(by rw[e7];exact hlt)=[I b.ae[k].gid,I b.ae[k].uid,jE b.ae[k].flags,S b.ae[k].text]:=by rw[fb]
  have hset:(b.ae.set k {b.ae[k] with flags:=lU b.ae[k].flags n t w}).map ah=(b.ae.map ah).set k [I b.ae[k].gid,I b.ae[k].uid,.sl false 3 ((lU b.ae[k].flags n t w).map aF),S b.ae[k].text]:=by rw[fR]
  have hng:¬(k:Int)<0:=by omega
  simp only[bW hlt];cases c1:fQ b
  ·rw[c1] at h2;simp only[ay,false_and,if_false];simp only[af,bM,ae,ints] at*;generalize b.ae.map ah=rm at*;generalize ax b.gone=rg at*;simp (maxSteps:=9^9) [a8,de.m,de.b,aa,setAt,h1,h2,h4,e7,e8,ab]
  rw[c1] at h2;cases c2:kD 0 n 7
  ·rw[c2] at h3;simp only[ay,false_and,and_false,if_false];simp only[af,bM,ae,ints] at*;generalize b.ae.map ah=rm at*;generalize ax b.gone=rg at*;simp (maxSteps:=9^9) [a8,de.m,de.b,aa,setAt,h1,h2,h3,h4,e7,e8,hng,ab]
  rw[c2] at h3;cases c3:kz t w
  ·rw[c3] at h5;simp only[ay,and_false,if_false];simp only[af,bM,ae,ints] at*;generalize b.ae.map ah=rm at*;generalize ax b.gone=rg at*;simp (maxSteps:=9^9) [a8,de.m,de.b,aa,setAt,h1,h2,h3,h4,h5,e7,e8,hng,ab]
  rw[c3] at h5;simp only[and_self,if_true];simp only[af,bM,ae,ints,hset] at*;generalize b.ae.map ah=rm at*;generalize ax b.gone=rg at*;simp (maxSteps:=9^9) [a8,de.m,de.b,aa,setAt,h1,h2,h3,h4,h5,h6,e7,e8,hng,hlt,hat,ab]
def kF(b:bz)(g f:Int)(text:List UInt8)(t w:Int):bz×Bool:=
 if fQ b=true∧gh b.ae g=none∧¬g∈b.gone∧kD 0 f 7=true∧fQ {b with ae:=b.ae++[⟨g,b.next,jI f t w,text⟩],next:=b.next+1}=true
 then({b with ae:=b.ae++[⟨g,b.next,jI f t w,text⟩],next:=b.next+1},true) else(b,false)
theorem eC.al(h:eC.k M)(b:bz)(hb:iw b)(g f:Int)(text:List UInt8)(t w:Int):
  run M 70 [.a (af b),.c (I g),.c (I f),.c (S text),.a [I t,I w]] []=some (.lL [.a (bM (kF b g f text t w).1),.c (.bool (kF b g f text t w).2)],[]):=by
 obtain⟨h0,k1,k2,k3,k4,k5,k6⟩:=h;have h1:=cJ.al k1 b g hb.m;have h2:=bI.al k2 b hb.ok.1 hb.ok.2.1 hb.ok.2.2.1 hb.ok.2.2.2;have h3:=fV.al k3 f;have h4:=cA.al k4 b hb;have h5:=aL.al k5 b.gone g (by have:=hb.g;omega);have h6:=gv.al k6 f t w;refine ao (b:=eC.m) h0 ⟨0, ?_⟩;have e7:(b.ae.map ah).length=b.ae.length:=by simp
 have e8:=aI b.gone;unfold kF;cases c1:fQ b
 ·rw[c1] at h2;simp only[ay,false_and,if_false];simp only[af,bM,ae,ints] at*;generalize b.ae.map ah=rm at*;generalize ax b.gone=rg at*;simp (maxSteps:=9^9) [a8,eC.m,eC.b,aa,setAt,h2,h4,e7,e8,ab]
 rw[c1] at h2;cases hk:gh b.ae g with
 |some k=>
  have hge:(0:Int)≤k:=by omega
  rw[hk] at h1;simp only[dN] at h1;simp only[reduceCtorEq,false_and,and_false,if_false];simp only[af,bM,ae,ints] at*;generalize b.ae.map ah=rm at*;generalize ax b.gone=rg at*;simp (maxSteps:=9^9) [a8,eC.m,eC.b,aa,setAt,h1,h2,h4,e7,e8,hge,ab]
 |none=>
 rw[hk] at h1;simp only[dN] at h1;by_cases c2:g∈b.gone
 ·rw[decide_eq_true c2] at h5;simp only[c2,not_true_eq_false,false_and,and_false,if_false];simp only[af,bM,ae,ints] at*;generalize b.ae.map ah=rm at*;generalize ax b.gone=rg at*;simp (maxSteps:=9^9) [a8,eC.m,eC.b,aa,setAt,h1,h2,h4,h5,e7,e8,ab]
 rw[decide_eq_false c2] at h5;cases c3:kD 0 f 7
 ·rw[c3] at h3;simp only[ay,false_and,and_false,if_false];simp only[af,bM,ae,ints] at*;generalize b.ae.map ah=rm at*;generalize ax b.gone=rg at*;simp (maxSteps:=9^9) [a8,eC.m,eC.b,aa,setAt,h1,h2,h3,h4,h5,e7,e8,ab]
 rw[c3] at h3;have hnx:b.next≤1000000000∧0≤b.next:=by
  have:=(jT c1).2.2.2.2.1;exact⟨this.2,this.1⟩
 have hml:=(jT c1).2.2.2.2.2.1;have e9:IntKind.i64.wrap (b.next+1)=b.next+1:=wrap_i64 (by omega) (by omega);have hout:iw {b with ae:=b.ae++[⟨g,b.next,jI f t w,text⟩],next:=b.next+1}:=by
  refine⟨by simp;omega,hb.g,hb.n,fun m hm=> ?_⟩;rcases List.mem_append.1 hm with hm|hm
  ·exact hb.f m hm
  ·simp only[fy] at hm;subst hm;simp[jI]
 have h7:=bI.al k2 _ hout.ok.1 hout.ok.2.1 hout.ok.2.2.1 hout.ok.2.2.2;have e10:(b.ae++[(⟨g,b.next,jI f t w,text⟩:bp)]).map ah=b.ae.map ah++[[I g,I b.next,.sl false 3 ((jI f t w).map aF),S text]]:=by simp
 have e11:b.ae.length+1≤4294967296:=by omega
 simp only[af,ae,e10] at h7;simp only[c2,not_false_eq_true,true_and];cases c4:fQ {b with ae:=b.ae++[⟨g,b.next,jI f t w,text⟩],next:=b.next+1}
 ·rw[c4] at h7;simp only[ay,if_false];simp only[af,bM,ae,ints] at*;generalize (jI f t w).map aF=rf at*;generalize b.ae.map ah=rm at*;generalize ax b.gone=rg at*;simp (maxSteps:=9^9) [a8,eC.m,eC.b,aa,setAt,h1,h2,h3,h4,h5,h6,h7,e7,e8,e9,e11,ab]
 ·rw[c4] at h7;simp only[if_true];simp only[af,bM,ae,ints,e10] at*;generalize (jI f t w).map aF=rf at*;generalize b.ae.map ah=rm at*;generalize ax b.gone=rg at*;simp (maxSteps:=9^9) [a8,eC.m,eC.b,aa,setAt,h1,h2,h3,h4,h5,h6,h7,e7,e8,e9,e11,ab]
theorem dg.al(h:dg.k M)(b:bz)(hb:iw b)(g f:Int)(text:List UInt8)(t w:Int):
  run M 81 [.a (af b),.c (I g),.c (I f),.c (S text),.a [I t,I w]] []=some (.lL [.a (bM (kF b g f text t w).1),.c (.bool (kF b g f text t w).2)],[]):=by
 obtain⟨h0,k2,k1,k3,k5,k4,k6⟩:=h;have h1:=bP.al k1 b g hb.m;have h2:=bD.al k2 b hb.ok.1 hb.ok.2.1 hb.ok.2.2.1 hb.ok.2.2.2;have h3:=bY.kD k3 f 0 7;have h4:=b5.al k4 b hb;have h5:=bl.al k5 b.gone g (by have:=hb.g;omega);have h6:=gr.al k6 f t w;refine ao (b:=dg.m) h0 ⟨0, ?_⟩;have e7:(b.ae.map ah).length=b.ae.length:=by simp
 have e8:=aI b.gone;unfold kF;cases c1:fQ b
 ·rw[c1] at h2;simp only[ay,false_and,if_false];simp only[af,bM,ae,ints] at*;generalize b.ae.map ah=rm at*;generalize ax b.gone=rg at*;simp (maxSteps:=9^9) [a8,dg.m,dg.b,aa,setAt,h2,h4,e7,e8,ab]
 rw[c1] at h2;cases hk:gh b.ae g with
 |some k=>
  have hge:(0:Int)≤k:=by omega
  rw[hk] at h1;simp only[dN] at h1;simp only[reduceCtorEq,false_and,and_false,if_false];simp only[af,bM,ae,ints] at*;generalize b.ae.map ah=rm at*;generalize ax b.gone=rg at*;simp (maxSteps:=9^9) [a8,dg.m,dg.b,aa,setAt,h1,h2,h4,e7,e8,hge,ab]
 |none=>
 rw[hk] at h1;simp only[dN] at h1;by_cases c2:g∈b.gone
 ·rw[decide_eq_true c2] at h5;simp only[c2,not_true_eq_false,false_and,and_false,if_false];simp only[af,bM,ae,ints] at*;generalize b.ae.map ah=rm at*;generalize ax b.gone=rg at*;simp (maxSteps:=9^9) [a8,dg.m,dg.b,aa,setAt,h1,h2,h4,h5,e7,e8,ab]
 rw[decide_eq_false c2] at h5;cases c3:kD 0 f 7
 ·rw[c3] at h3;simp only[ay,false_and,and_false,if_false];simp only[af,bM,ae,ints] at*;generalize b.ae.map ah=rm at*;generalize ax b.gone=rg at*;simp (maxSteps:=9^9) [a8,dg.m,dg.b,aa,setAt,h1,h2,h3,h4,h5,e7,e8,ab]
 rw[c3] at h3;have hnx:b.next≤1000000000∧0≤b.next:=by
  have:=(jT c1).2.2.2.2.1;exact⟨this.2,this.1⟩
 have hml:=(jT c1).2.2.2.2.2.1;have e9:IntKind.i64.wrap (b.next+1)=b.next+1:=wrap_i64 (by omega) (by omega);have hout:iw {b with ae:=b.ae++[⟨g,b.next,jI f t w,text⟩],next:=b.next+1}:=by
  refine⟨by simp;omega,hb.g,hb.n,fun m hm=> ?_⟩;rcases List.mem_append.1 hm with hm|hm
  ·exact hb.f m hm
  ·simp only[fy] at hm;subst hm;simp[jI]
 have h7:=bD.al k2 _ hout.ok.1 hout.ok.2.1 hout.ok.2.2.1 hout.ok.2.2.2;have e10:(b.ae++[(⟨g,b.next,jI f t w,text⟩:bp)]).map ah=b.ae.map ah++[[I g,I b.next,.sl false 3 ((jI f t w).map aF),S text]]:=by simp
 have e11:b.ae.length+1≤4294967296:=by omega
 simp only[af,ae,e10] at h7;simp only[c2,not_false_eq_true,true_and];cases c4:fQ {b with ae:=b.ae++[⟨g,b.next,jI f t w,text⟩],next:=b.next+1}
 ·rw[c4] at h7;simp only[ay,if_false];simp only[af,bM,ae,ints] at*;generalize (jI f t w).map aF=rf at*;generalize b.ae.map ah=rm at*;generalize ax b.gone=rg at*;simp (maxSteps:=9^9) [a8,dg.m,dg.b,aa,setAt,h1,h2,h3,h4,h5,h6,h7,e7,e8,e9,e11,ab]
 ·rw[c4] at h7;simp only[if_true];simp only[af,bM,ae,ints,e10] at*;generalize (jI f t w).map aF=rf at*;generalize b.ae.map ah=rm at*;generalize ax b.gone=rg at*;simp (maxSteps:=9^9) [a8,dg.m,dg.b,aa,setAt,h1,h2,h3,h4,h5,h6,h7,e7,e8,e9,e11,ab]
end Mx
namespace Mx
attribute [simp] tD
open Go
variable {M:Nat→Option Body}
theorem Bm{l:List Int}{n:Int}(hl:ym l):aV l [n]=kY l n:=
 zY (nS l [n]) (tQ hl) fun z=>by rw[iU,nT];simp;exact or_comm
theorem jv.al(h:jv.k M)(a:List Int)(n:Int)(ha:a.length≤1048576):run M 163 [.c (ints a),.c (I n)] []=some (.c (.sl true 1 (ax (aV a [n]))),[]):=by
 obtain⟨h0,k1,k2,k3⟩:=h;have h1:=fj.al k1 a ha;have hab:(a++[n]).length≤4294967296:=by simp;omega
 have h2:=Av k2 (a++[n]) hab;have hsl:(lT (a++[n])).length=(a++[n]).length:=by simp[lT]
 have h3:=uX k3 (lT (a++[n])) (by rw[hsl];exact hab);rw[sM] at h3;have hjl:(aV a [n]).length≤(a++[n]).length:=by
  have:=sf (a++[n]) [];simp only[aV];simpa using this
 refine ao (b:=jv.m) h0 ⟨0, ?_⟩;rw[hsl] at h3;have e1:ax (a++[n])=ax a++[[I n]]:=nK a n;have e2:ax (aV a [n]++List.replicate ((a++[n]).length-(aV a [n]).length) 0)=ax (aV a [n])++ax (List.replicate ((a++[n]).length-(aV a [n]).length) 0):=by simp[ax]
 rw[e1] at h2;rw[e2] at h3;simp only[aC,bU] at h2 h3 hab hjl;have l1:=aI a;have l3:=aI (aV a [n]);have l4:(ax (List.replicate (a.length+1-(aV a [n]).length) 0)).length=a.length+1-(aV a [n]).length:=by simp[ax]
 have s1:=kT (lT (a++[n]));have s2:=kT (aV a [n]);have l5:=aI (lT (a++[n]));rw[hsl] at l5;simp only[aC,bU] at l5;simp only[ints] at h1 ⊢;generalize ax (List.replicate (a.length+1-(aV a [n]).length) 0)=rz at*;generalize ax (lT (a++[n]))=rs at*;generalize aV a [n]=j at*;generalize ax j=rj at*;have e5:a.length≤4294967296:=by omega
 have e6:j.length≤rj.length+rz.length:=by omega
 generalize ax a=ra at*;simp (maxSteps:=9^9) [a8,jv.m,jv.b,aa,h1,h2,h3,hab,l1,l3,l4,l5,s1,s2,ab]
theorem Dc{α:Type}(x:α)(q:List α):∃q' y,x::q=q'++[y]∧q'.length=q.length:=by
 refine⟨(x::q).dropLast,(x::q).getLast (by simp),(List.dropLast_concat_getLast (by simp)).symm,by simp⟩
theorem sv(h:a_.k M)(p:List (List T))(x:List T)(q:List (List T))(hl:p.length+(q.length+1)≤1048576):
  run M 162 [.c (.row 0 0 0 (p.length+(q.length+1))),.c (I p.length),.c (I ((p.length:Int)+1))] [(0,⟨0,4,true,false,p++x::q⟩)]=
   some (.c (.row 0 0 0 (p.length+q.length)),[(0,⟨0,4,true,false,p++q++[sK]⟩)]):=by
 refine ao (b:=a_.m) h ⟨0, ?_⟩;obtain⟨q',y,hy,hq'⟩:=Dc x q;have g1:(0:Int)≤(p.length:Int)+1:=by omega
 have g2:¬(p.length:Int)=(p.length:Int)+1:=by omega
 have g3:(p++x::q).take p.length=p:=by simp
 have g4:(p++x::q).drop (p.length+1)=q:=by simp
 have g5:(p++x::q).drop (p.length+q.length)=[y]:=by
  rw[hy,←hq',List.drop_append];simp
 have g6:p.length+(q.length+1)-(p.length+1)=q.length:=by omega
 have g7:(p++x::q).length=p.length+(q.length+1):=by simp
 have g8:p.length+(q.length+1)-(p.length+q.length)=1:=by omega
 have g9:p.length+q.length≤p.length+(q.length+1):=by omega
 have g10:p.length+q.length≤4294967296:=by omega
 have g11:¬p.length+q.length=p.length+(q.length+1):=by omega
 have g12:(p++q++[y]).length=p.length+(q.length+1):=by simp
 have g13:(p++q++[y]).take (p.length+q.length)=p++q:=by rw[←aC,List.take_left]
 have g19:(1:Int)≤(q.length:Int)+1:=by omega
 have g20:1≤q.length+1:=by omega
 have g14:(p++q++[y]).drop (p.length+(q.length+1))=[]:=eK (by rw[g12];omega);have g15:p.length+1≤p.length+(q.length+1):=by omega
 have g16:p.length+q.length+1=p.length+(q.length+1):=by omega
 have g17:(0:Int)≤(p.length:Int)+(q.length:Int):=by omega
 have g18:(0:Int)≤(p.length:Int)+((q.length:Int)+1):=by omega
 have g21:p.length+1+q.length≤p.length+(q.length+1):=by omega
 have g22:1+q.length≤q.length+1:=by omega
 generalize hR:p++x::q=R at*;simp only[ct] at g12 g13 g14;by_cases hq0:q=[]
 ·subst hq0;by_cases hz:p.length=0
  ·have hp:p=[]:=ba hz;subst hp;simp at g1 g2 g3 g4 g5 g6 g7 g8 g9 g10 g11 g12 g13 g14 g15 g16 g17 g18;simp (maxSteps:=9^9) [a8,a_.m,a_.b,aa,g5]
  ·simp at g1 g2 g3 g4 g5 g6 g7 g8 g9 g10 g11 g12 g13 g14 g15 g16 g17 g18;simp (maxSteps:=9^9) [a8,a_.m,a_.b,aa,g1,g2,g3,g5,g7,g10,hz]
 ·have g23:((p.length:Int)+(q.length:Int)).toNat=p.length+q.length:=by omega
  have g24:((p.length:Int)+((q.length:Int)+1)).toNat=p.length+(q.length+1):=by omega
  have g25:max ((p.length:Int)+(q.length:Int)) 0≤(p.length:Int)+((q.length:Int)+1):=by omega
  by_cases hz:p.length=0
  ·have hp:p=[]:=ba hz;subst hp;simp at g1 g2 g3 g4 g5 g6 g7 g8 g9 g10 g11 g12 g13 g14 g15 g16 g17 g18;simp (maxSteps:=9^9) [a8,a_.m,a_.b,aa,g4,g5,g7,g10,g18,g20,g22,hq0,ab]
  ·simp (maxSteps:=9^9) [a8,a_.m,a_.b,aa,g1,g2,g3,g4,g5,g6,g7,g8,g9,g10,g12,g13,g14,g15,g16,g17,g18,g21,g23,g24,hz,hq0,ab]
end Mx
namespace Mx
open Go
variable {M:Nat→Option Body}
theorem xl{l:List Int}{most:Int}(h:l_ l most=true):ym l:=by
 simp only[l_,ak,decide_eq_true_eq,b9,iN] at h;have hn:∀j (hj:j<l.length),∀i (hi:i<j),l[i]'(by omega)<l[j]:=by
  intro j
  induction j with
  |zero=>intro _ i hi;omega
  |succ j ih=>
   intro hj i hi;have:=h.1 (j+1) hj;rw[oq hj] at this;simp at this;by_cases e:i=j
   ·subst e;exact this.2
   ·exact Int.lt_trans (ih (by omega) i (by omega)) this.2
 exact List.pairwise_iff_getElem.2 fun i j hi hj hij=>hn j hj i hij
theorem xP{b:bz}(h:fQ b=true):l_ b.gone 40=true:=by
 simp only[fQ,ak] at h;exact h.1.2
def jY(b:bz)(g:Int):bz×Bool:=match gh b.ae g with
 |none=>(b,false)
 |some k=>if fQ b=true∧b.gone.length<40 then({b with ae:=b.ae.take k++b.ae.drop (k+1),gone:=kY b.gone g},true) else(b,false)
theorem uo(h:a_.k M)(r:List (List T))(k:Nat)(hk:k<r.length)(hl:r.length≤1048576):
  run M 162 [.c (.row 0 0 0 r.length),.c (I k),.c (I ((k:Int)+1))] [(0,⟨0,4,true,false,r⟩)]=
   some (.c (.row 0 0 0 (r.length-1)),[(0,⟨0,4,true,false,r.take k++r.drop (k+1)++[sK]⟩)]):=by
 have e:r.take k++r[k]::r.drop (k+1)=r:=by simp
 have:=sv h (r.take k) r[k] (r.drop (k+1)) (by simp;omega);rw[e] at this;have e1:(r.take k).length=k:=by simp;omega
 have e2:(r.drop (k+1)).length=r.length-(k+1):=by simp
 rw[e1,e2] at this;have e3:k+(r.length-(k+1)+1)=r.length:=by omega
 have e4:k+(r.length-(k+1))=r.length-1:=by omega
 rw[e3,e4] at this;exact this
theorem fW.al(h:fW.k M)(b:bz)(hb:iw b)(g:Int):run M 73 [.a (af b),.c (I g)] []=some (.lL [.a (bM (jY b g).1),.c (.bool (jY b g).2)],[]):=by
 obtain⟨h0,k1,k2,k3,k4,k5⟩:=h;have h1:=cJ.al k1 b g hb.m;have h2:=bI.al k2 b hb.ok.1 hb.ok.2.1 hb.ok.2.2.1 hb.ok.2.2.2;have h4:=cA.al k3 b hb;have h5:=jv.al k5 b.gone g hb.g;refine ao (b:=fW.m) h0 ⟨0, ?_⟩;have e7:(b.ae.map ah).length=b.ae.length:=by simp
 have e8:=aI b.gone;unfold jY;cases hk:gh b.ae g with
 |none=>
  rw[hk] at h1;simp only[dN] at h1;simp only[af,bM,ae,ints] at*;generalize fQ b=ok at*;generalize b.ae.map ah=rm at*;generalize ax b.gone=rg at*;cases ok<;>simp (maxSteps:=9^9) [a8,fW.m,fW.b,aa,setAt,h1,h2,h4,e7,e8,ab]
 |some k=>
  have hlt:=tG hk;rw[hk] at h1;simp only[dN] at h1;have hng:¬(k:Int)<0:=by omega
  cases c1:fQ b
  ·rw[c1] at h2;simp only[ay,false_and,if_false];simp only[af,bM,ae,ints] at*;generalize b.ae.map ah=rm at*;generalize ax b.gone=rg at*;simp (maxSteps:=9^9) [a8,fW.m,fW.b,aa,setAt,h1,h2,h4,e7,e8,ab]
  rw[c1] at h2;have h40:=(jT c1).2.2.2.2.2.2.1;have hml:=(jT c1).2.2.2.2.2.1;by_cases c2:b.gone.length<40
  ·have n2:¬b.gone.length=40:=by omega
   have n3:¬(b.gone.length:Int)=40:=by omega
   simp only[c2,and_self,if_true];rw[Bm (xl (xP c1))] at h5;have h6:=uo k4 (b.ae.map ah) k (by rw[e7];exact hlt) (by rw[e7];exact hb.m);rw[e7] at h6;have e9:=cz (i:=k) (by omega);have e10:(b.ae.take k++b.ae.drop (k+1)).map ah=(b.ae.map ah).take k++(b.ae.map ah).drop (k+1):=by simp
   have e11:((b.ae.map ah).take k++((b.ae.map ah).drop (k+1)++[sK])).take (b.ae.length-1)=(b.ae.map ah).take k++(b.ae.map ah).drop (k+1):=by
    rw[←ct];exact List.take_left' (by simp;omega)
   have e12:=aI (kY b.gone g);have e13:b.ae.length≤min k b.ae.length+(b.ae.length-(k+1)+1)+1:=by omega
   simp only[af,bM,ae,ints,e10] at*;generalize b.ae.map ah=rm at*;generalize ax b.gone=rg at*;generalize ax (kY b.gone g)=ru at*;simp (maxSteps:=9^9) [a8,fW.m,fW.b,aa,setAt,h1,h2,h4,h5,h6,e7,e8,e9,e11,e12,e13,hng,n3,ab]
  ·have n2:b.gone.length=40:=by omega
   have n3:(b.gone.length:Int)=40:=by omega
   simp only[c2,and_false,if_false];simp only[af,bM,ae,ints] at*;generalize b.ae.map ah=rm at*;generalize ax b.gone=rg at*;simp (maxSteps:=9^9) [a8,fW.m,fW.b,aa,setAt,h1,h2,h4,e7,e8,n2,hng,ab]
theorem cS.al(h:cS.k M)(b:bz)(hb:iw b)(g:Int):run M 86 [.a (af b),.c (I g)] []=some (.lL [.a (bM (jY b g).1),.c (.bool (jY b g).2)],[]):=by
 obtain⟨h0,k2,k1,k5,k3⟩:=h;have h1:=bP.al k1 b g hb.m;have h2:=bD.al k2 b hb.ok.1 hb.ok.2.1 hb.ok.2.2.1 hb.ok.2.2.2;have h4:=b5.al k3 b hb;have h5:=b7.al k5 b.gone g (by have:=hb.g;omega);refine ao (b:=cS.m) h0 ⟨0, ?_⟩;have e7:(b.ae.map ah).length=b.ae.length:=by simp
 have e8:=aI b.gone;unfold jY;cases hk:gh b.ae g with
 |none=>
  rw[hk] at h1;simp only[dN] at h1;simp only[af,bM,ae,ints] at*;generalize fQ b=ok at*;generalize b.ae.map ah=rm at*;generalize ax b.gone=rg at*;cases ok<;>simp (maxSteps:=9^9) [a8,cS.m,cS.b,aa,setAt,h1,h2,h4,e7,e8,ab]
 |some k=>
  have hlt:=tG hk;rw[hk] at h1;simp only[dN] at h1;have hng:¬(k:Int)<0:=by omega
  cases c1:fQ b
  ·rw[c1] at h2;simp only[ay,false_and,if_false];simp only[af,bM,ae,ints] at*;generalize b.ae.map ah=rm at*;generalize ax b.gone=rg at*;simp (maxSteps:=9^9) [a8,cS.m,cS.b,aa,setAt,h1,h2,h4,e7,e8,ab]
  rw[c1] at h2;have h40:=(jT c1).2.2.2.2.2.2.1;have hml:=(jT c1).2.2.2.2.2.1;by_cases c2:b.gone.length<40
  ·have n2:¬40≤b.gone.length:=by omega
   have n3:¬(40:Int)≤(b.gone.length:Int):=by omega
   simp only[c2,and_self,if_true];have e9:=cz (i:=k) (by omega);have e10:(b.ae.take k++b.ae.drop (k+1)).map ah=(b.ae.map ah).take k++(b.ae.map ah).drop (k+1):=by simp
   have e14:min k b.ae.length=k:=by omega
   have e12:=aI (kY b.gone g);have e13:b.ae.length≤min k b.ae.length+(b.ae.length-(k+1)+1)+1:=by omega
   simp only[af,bM,ae,ints,e10] at*;generalize b.ae.map ah=rm at*;generalize ax b.gone=rg at*;generalize ax (kY b.gone g)=ru at*;have f1:k≤b.ae.length:=by omega
   have f2:k+1≤b.ae.length:=by omega
   have f3:(0:Int)≤k:=by omega
   have f4:(0:Int)≤(k:Int)+1:=by omega
   have f5:(k:Int)≤b.ae.length:=by omega
   have f6:(k:Int)+1≤b.ae.length:=by omega
   have f7:((k:Int)+1).toNat=k+1:=by omega
   have f8:rm.take b.ae.length=rm:=ab (by omega);have f9:k≤4294967296:=by omega
   have f10:b.ae.length≤4294967296:=by omega
   have f11:k+(b.ae.length-(k+1))≤4294967296:=by omega
   have f13:IntKind.i64.wrap 1=1:=wrap_i64 (by omega) (by omega);have f14:b.ae.length≤4294967297:=by omega
   have f12:rm.length-(k+1)≤4294967296:=by omega
   by_cases z:k=0
   ·subst z;by_cases y:b.ae.length=1
    ·have y2:rm.drop 1=[]:=eK (by omega);simp (maxSteps:=9^9) [a8,cS.m,cS.b,aa,setAt,h1,h2,h4,h5,e7,e8,e12,n3,f13,y,y2,ab]
    ·have y1:¬1=b.ae.length:=by omega
     simp (maxSteps:=9^9) [a8,cS.m,cS.b,aa,setAt,h1,h2,h4,h5,e7,e8,e12,n3,f1,f2,f9,f13,f14,y1,ab]
   ·have z0:¬0=k:=by omega
    by_cases y:b.ae.length=k+1
    ·have y2:rm.drop (k+1)=[]:=eK (by omega);simp (maxSteps:=9^9) [a8,cS.m,cS.b,aa,setAt,h1,h2,h4,h5,e7,e8,e9,e12,hng,n3,f3,f4,f7,f9,z,z0,y,y2,ab]
    ·have y1:¬k+1=b.ae.length:=by omega
     simp (maxSteps:=9^9) [a8,cS.m,cS.b,aa,setAt,h1,h2,h4,h5,e7,e8,e9,e12,e14,hng,n3,f1,f2,f3,f4,f7,f9,f11,z,z0,y1,ab]
  ·have n2:40≤b.gone.length:=by omega
   have n3:(40:Int)≤(b.gone.length:Int):=by omega
   simp only[c2,and_false,if_false];simp only[af,bM,ae,ints] at*;generalize b.ae.map ah=rm at*;generalize ax b.gone=rg at*;simp (maxSteps:=9^9) [a8,cS.m,cS.b,aa,setAt,h1,h2,h4,e7,e8,n3,hng,ab]
end Mx
namespace Mx
open Go
theorem Ba(l:List bp)(g:Int):∀d i k,CE l g d i=some k→i≤k∧∃h:k<l.length,(l[k]).gid=g∧∀j,i≤j→(hj:j<k)→(l[j]'(by omega)).gid≠g
 |0,i,k,h=>by simp[CE] at h
 |d+1,i,k,h=>by
  simp only[CE] at h;split at h
  ·rename_i hi;split at h
   ·rename_i e;cases h;exact⟨Nat.le_refl _,hi,e,fun j h1 h2=>by omega⟩
   ·rename_i e;obtain⟨h1,h2,h3,h4⟩:=Ba l g d (i+1) k h;refine⟨by omega,h2,h3,fun j hj hk=> ?_⟩;by_cases q:j=i
    ·subst q;exact e
    ·exact h4 j (by omega) hk
  ·cases h
theorem Bb(l:List bp)(g:Int):∀d i,CE l g d i=none→∀j,i≤j→j<i+d→(hj:j<l.length)→(l[j]).gid≠g
 |0,i,h,j,h1,h2,hj=>by omega
 |d+1,i,h,j,h1,h2,hj=>by
  simp only[CE] at h;rw[dif_pos (by omega)] at h;split at h
  ·cases h
  ·rename_i e;by_cases q:j=i
   ·subst q;exact e
   ·exact Bb l g d (i+1) h j (by omega) (by omega) hj
theorem mS{l:List bp}{g:Int}{k:Nat}(h:gh l g=some k):∃h:k<l.length,(l[k]).gid=g∧∀j,(hj:j<k)→(l[j]'(by omega)).gid≠g:=by
 obtain⟨_,h1,h2,h3⟩:=Ba l g _ _ _ h;exact⟨h1,h2,fun j hj=>h3 j (Nat.zero_le _) hj⟩
theorem qy{l:List bp}{g:Int}:gh l g=none↔∀m∈l,m.gid≠g:=by
 constructor
 ·intro h m hm;obtain⟨j,hj,rfl⟩:=bF hm;exact Bb l g _ _ h j (Nat.zero_le _) (by omega) hj
 ·intro h;cases q:gh l g with
  |none=>rfl
  |some k=>
   obtain⟨h1,h2,_⟩:=mS q;exact(h _ (ar h1) h2).elim
theorem FI{l:List bp}{k:Nat}(hk:k<l.length)(h:∀j,(hj:j<k)→(l[j]'(by omega)).gid≠(l[k]).gid):gh l (l[k]).gid=some k:=by
 cases q:gh l (l[k]).gid with
 |none=>exact(qy.1 q _ (ar hk) rfl).elim
 |some k'=>
  obtain⟨h1,h2,h3⟩:=mS q;rcases Nat.lt_trichotomy k' k with c|c|c
  ·exact(h k' c h2).elim
  ·rw[c]
  ·exact(h3 k c rfl).elim
structure Good (b:bz):Prop where
 gid:1≤b.gid∧b.gid≤9999
 name:nw b.name=true
 st:kz b.time b.eD=true
 next:1≤b.next∧b.next≤10000
 len:b.ae.length≤10
 gone:ym b.gone
 xk:∀g∈b.gone,1≤g∧g≤9999
 nL:b.gone.length≤40
 AI:∀m∈b.ae,iY m=true∧m.uid<b.next∧¬m.gid∈b.gone
 JN:b.ae.Pairwise (fun a c=>a.uid<c.uid)
 eI:b.ae.Pairwise (fun a c=>a.gid≠c.gid)
theorem wy{l:List Int}(h:∀j (hj:j+1<l.length),l[j]<l[j+1]):ym l:=by
 have hn:∀j (hj:j<l.length),∀i (hi:i<j),l[i]'(by omega)<l[j]:=by
  intro j
  induction j with
  |zero=>intro _ i hi;omega
  |succ j ih=>
   intro hj i hi;by_cases e:i=j
   ·subst e;exact h i hj
   ·exact Int.lt_trans (ih (by omega) i (by omega)) (h j hj)
 exact List.pairwise_iff_getElem.2 fun i j hi hj hij=>hn j hj i hij
theorem pf{l:List Int}{most:Int}:l_ l most=true↔ym l∧(∀g∈l,1≤g∧g≤9999)∧(l.length:Int)≤most:=by
 constructor
 ·intro h;exact⟨xl h,(nM h).2,(nM h).1⟩
 ·rintro ⟨h1,h2,h3⟩;simp only[l_,ak,decide_eq_true_eq,b9,iN];refine⟨fun j hj=> ?_,h3⟩;rw[oq hj];have q1:=h2 _ (ar hj);simp only[fc,Bool.not_eq_eq_eq_not,Bool.not_false,Bool.and_eq_false_imp,decide_eq_true_eq,decide_eq_false_iff_not];refine⟨i_.2 q1,fun h0=> ?_⟩;have:=List.pairwise_iff_getElem.1 h1 (j-1) j (by omega) hj (by omega);omega
theorem o8{b:bz}:fQ b=true↔Good b:=by
 constructor
 ·intro h;have hv:=jT h;have hg:=pf.1 (xP h);simp only[fQ,ak,decide_eq_true_eq,b9,iN] at h;obtain⟨⟨⟨⟨⟨⟨h1,h2⟩,h3⟩,h4⟩,h5⟩,h6⟩,h7⟩:=h;have key:∀i (hi:i<b.ae.length),iY b.ae[i]=true∧b.ae[i].uid<b.next∧(0<i→b.ae[i-1].uid<b.ae[i].uid)∧gh b.ae b.ae[i].gid=some i∧¬b.ae[i].gid∈b.gone:=by
   intro i hi;have:=h7 i hi;rw[nF hi] at this;simp only[fc,Bool.not_eq_eq_eq_not,Bool.not_false,Bool.and_eq_false_imp,decide_eq_true_eq,decide_eq_false_iff_not] at this;obtain⟨⟨⟨⟨q1,q2⟩,q3⟩,q4⟩,q5⟩:=this;refine⟨q1,by omega,fun h0=>by have:=q3 h0;omega, ?_,q5⟩;cases e:gh b.ae b.ae[i].gid with
   |none=>rw[e] at q4;simp only[dN] at q4;omega
   |some k=>rw[e] at q4;simp only[dN] at q4;rw[show k=i by omega]
  refine⟨i_.1 h1,h2,h3,i_.1 h4,h5,hg.1,hg.2.1,by omega,fun m hm=> ?_, ?_, ?_⟩
  ·obtain⟨j,hj,rfl⟩:=bF hm;have:=key j hj;exact⟨this.1,this.2.1,this.2.2.2.2⟩
  ·have ha:ym (b.ae.map (·.uid)):=wy fun j hj=>by
    simp only[gD] at hj;have:=(key (j+1) hj).2.2.1 (by omega);simpa using this
   exact List.pairwise_map.1 ha
  ·refine List.pairwise_iff_getElem.2 fun i j hi hj hij e=> ?_
   obtain⟨_,_,h3⟩:=mS (key j hj).2.2.2.1;exact h3 i hij e
 ·intro h;simp only[fQ,ak,decide_eq_true_eq,b9,iN];refine⟨⟨⟨⟨⟨⟨i_.2 h.gid,h.name⟩,h.st⟩,i_.2 h.next⟩,h.len⟩,pf.2 ⟨h.gone,h.xk,by have:=h.nL;omega⟩⟩,fun i hi=> ?_⟩;rw[nF hi];obtain⟨q1,q2,q3⟩:=h.AI _ (ar hi);simp only[fc,Bool.not_eq_eq_eq_not,Bool.not_false,Bool.and_eq_false_imp,decide_eq_true_eq,decide_eq_false_iff_not];refine⟨⟨⟨⟨q1,by omega⟩,fun h0=> ?_⟩, ?_⟩,q3⟩
  ·have:=List.pairwise_iff_getElem.1 h.JN (i-1) i (by omega) hi (by omega);omega
  ·rw[FI hi fun j hj=>List.pairwise_iff_getElem.1 h.eI j i (by omega) hi hj];rfl
structure qd (i:Nat) (b:bz):Prop where
 j2:Good b
 m:∀m∈b.ae,10≤m.gid∧m.gid≤18
 g:∀g∈b.gone,10≤g∧g≤18
 nx:b.next≤4+i
 gl:b.gone.length≤i
theorem qd.mono{i j:Nat}{b:bz}(h:qd i b)(hij:i≤j):qd j b:=⟨h.j2,h.m,h.g,by have:=h.nx;omega,by have:=h.gl;omega⟩
theorem Good.tM{b:bz}(h:Good b):iw b:=
 ⟨by have:=h.len;omega,by have:=h.nL;omega,by have:=(mi h.name).2;omega,fun m hm=>by have:=(nI (h.AI m hm).1).2.2.1;omega⟩
theorem Ek{i:Nat}{b:bz}(h:qd i b){g:Int}(hg:10≤g∧g≤18)(f:Int)(x:List UInt8)(t w:Int):qd (i+1) (kF b g f x t w).1:=by
 unfold kF;split
 ·rename_i c;refine⟨o8.1 c.2.2.2.2,fun m hm=> ?_,h.g,by have:=h.nx;simp only;omega,by have:=h.gl;simp only;omega⟩;rcases List.mem_append.1 hm with q|q
  ·exact h.m m q
  ·simp only[fy] at q;subst q;exact hg
 ·exact h.mono (by omega)
theorem xi(l:List Int)(x:Int):(kY l x).length≤l.length+1:=by
 have h:∀l:List Int,(l.filter (fun y=>decide (y<x))).length+(l.filter (fun y=>decide (x<y))).length≤l.length:=by
  intro l
  induction l with
  |nil=>simp
  |cons a l ih=>
   simp only[iP];by_cases c1:a<x
   ·have c2:¬x<a:=by omega
    simp[c1,c2];omega
   ·by_cases c2:x<a
    ·simp[c1,c2];omega
    ·simp[c1,c2];omega
 have:=h l;simp only[kY,aC,bU];omega
theorem mD{α:Type}(l:List α)(k:Nat):(l.take k++l.drop (k+1)).Sublist l:=by
 have e:l=l.take k++l.drop k:=(dm k l).symm;have h1:(l.drop (k+1)).Sublist (l.drop k):=by rw[←List.drop_drop];exact List.drop_sublist 1 _
 have h2:=List.Sublist.append (List.Sublist.refl (l.take k)) h1;rw[←e] at h2;exact h2
theorem yO{b:bz}(h:Good b){k:Nat}(hk:k<b.ae.length)(h40:b.gone.length<40):
  Good {b with ae:=b.ae.take k++b.ae.drop (k+1),gone:=kY b.gone (b.ae[k]).gid}:=by
 have hs:=mD b.ae k;have hq:=h.AI _ (ar hk);have hv:=(nI hq.1).1;have hgid:1≤(b.ae[k]).gid∧(b.ae[k]).gid≤9999:=by
  have:=hq.1;simp only[iY,ak] at this;exact i_.1 this.1.1.1
 refine⟨h.gid,h.name,h.st,h.next,by have:=hs.length_le;have:=h.len;simp only;omega,tQ h.gone,fun g hg=> ?_,by have:=xi b.gone (b.ae[k]).gid;simp only;omega,fun m hm=> ?_,h.JN.sublist hs,h.eI.sublist hs⟩
 ·rcases nT.1 hg with q|q
  ·rw[q];exact hgid
  ·exact h.xk g q
 ·have hm':=h.AI m (hs.subset hm);refine⟨hm'.1,hm'.2.1,fun c=> ?_⟩;rcases nT.1 c with q|q
  ·rcases List.mem_append.1 hm with z|z
   ·obtain⟨j,hj,rfl⟩:=bF z;rw[List.getElem_take] at q;have hjk:j<k:=by simp at hj;omega
    exact List.pairwise_iff_getElem.1 h.eI j k (by omega) hk hjk q
   ·obtain⟨j,hj,rfl⟩:=bF z;rw[List.getElem_drop] at q;exact List.pairwise_iff_getElem.1 h.eI k (k+1+j) hk (by simp at hj;omega) (by omega) q.symm
  ·exact hm'.2.2 q
theorem Cl{i:Nat}{b:bz}(h:qd i b){g:Int}(hg:10≤g∧g≤18):qd (i+1) (jY b g).1:=by
 unfold jY;split
 ·exact h.mono (by omega)
 ·rename_i k hk;obtain⟨hlt,he,_⟩:=mS hk;split
  ·rename_i c;have hs:=mD b.ae k;have:=yO h.j2 hlt c.2;rw[he] at this;refine⟨this,fun m hm=>h.m m (hs.subset hm),fun x hx=> ?_,by have:=h.nx;simp only;omega,by have:=xi b.gone g;have:=h.gl;simp only;omega⟩;rcases nT.1 hx with q|q
   ·rw[q];exact hg
   ·exact h.g x q
  ·exact h.mono (by omega)
theorem vo{l:List mB}:jZ l=true↔l.length=3∧∀r∈l,nQ r=true∧r.val≤1:=by
 simp only[jZ,ak,decide_eq_true_eq,b9,iN];constructor
 ·rintro ⟨h1,h2⟩;refine⟨h2,fun r hr=> ?_⟩;obtain⟨j,hj,rfl⟩:=bF hr;have:=h1 j hj;rw[mY hj] at this;simp only[fc,Bool.not_eq_eq_eq_not,Bool.not_false,decide_eq_false_iff_not] at this;exact⟨this.1,by omega⟩
 ·rintro ⟨h1,h2⟩;refine⟨fun j hj=> ?_,h1⟩;have:=h2 _ (ar hj);rw[mY hj];simp only[fc,Bool.not_eq_eq_eq_not,Bool.not_false,decide_eq_false_iff_not];exact⟨this.1,by omega⟩
theorem Ap{l:List mB}(h:jZ l=true)(n t w:Int):jZ (lU l n t w)=true:=by
 unfold lU;split
 ·obtain⟨h1,h2⟩:=vo.1 h;refine vo.2 ⟨by simpa using h1,fun r hr=> ?_⟩;obtain⟨j,hj,rfl⟩:=bF hr;rw[List.getElem_mapIdx];have hq:=h2 _ (ar (l:=l) (by simpa using hj));unfold oN;split
  ·exact hq
  ·unfold uv;split
   ·rename_i c;exact⟨c.2,(vF n j).2⟩
   ·exact hq
 ·exact h
theorem F1{b:bz}(h:Good b){k:Nat}(hk:k<b.ae.length)(fl:List mB)(hf:jZ fl=true):Good {b with ae:=b.ae.set k {b.ae[k] with flags:=fl}}:=by
 have e1:(b.ae.set k {b.ae[k] with flags:=fl}).map (·.uid)=b.ae.map (·.uid):=by
  rw[fR];apply List.ext_getElem<;>simp[List.getElem_set];intro i hi h2;subst h2;rfl
 have e2:(b.ae.set k {b.ae[k] with flags:=fl}).map (·.gid)=b.ae.map (·.gid):=by
  rw[fR];apply List.ext_getElem<;>simp[List.getElem_set];intro i hi h2;subst h2;rfl
 refine⟨h.gid,h.name,h.st,h.next,by simpa using h.len,h.gone,h.xk,h.nL,fun m hm=> ?_, ?_, ?_⟩
 ·obtain⟨j,hj,rfl⟩:=bF hm;simp only[List.length_set] at hj;simp only[List.getElem_set];split
  ·rename_i e;subst e;have hq:=h.AI _ (ar hk);refine⟨?_,hq.2.1,hq.2.2⟩;have:=hq.1;simp only[iY,ak] at this ⊢;exact⟨⟨this.1.1,hf⟩,this.2⟩
  ·exact h.AI _ (ar hj)
 ·have:=List.pairwise_map.2 h.JN;rw[←e1] at this;exact List.pairwise_map.1 this
 ·have:=List.pairwise_map.2 h.eI;rw[←e2] at this;exact List.pairwise_map.1 this
theorem Cm{i:Nat}{b:bz}(h:qd i b)(g n t w:Int):qd (i+1) (jJ b g n t w).1:=by
 unfold jJ;split
 ·exact h.mono (by omega)
 ·rename_i k hk;obtain⟨hlt,he,_⟩:=mS hk;rw[bW hlt];simp only;split
  ·have hm:=h.j2.AI _ (ar hlt);have hf:jZ (b.ae[k]).flags=true:=by
    have:=hm.1;simp only[iY,ak] at this;exact this.1.2
   refine⟨F1 h.j2 hlt _ (Ap hf n t w),fun m hm=> ?_,h.g,by have:=h.nx;simp only;omega,by have:=h.gl;simp only;omega⟩;obtain⟨j,hj,rfl⟩:=bF hm;simp only[List.getElem_set];split
   ·exact h.m (b.ae[k]) (ar hlt)
   ·exact h.m _ (ar (by simpa using hj))
  ·exact h.mono (by omega)
end Mx
namespace Mx
open Go
variable {M:Nat→Option Body}
structure G4 where
 i:Nat
 b:bz
 c:Bool
 u2:Nat
 u4:Nat
 v1:Nat
 v2:Nat
 ic:Nat
 q:Int
 n:Nat
def Ll(s:G4):T:=if s.c then .row 14905 s.v1 0 s.b.ae.length else .aO 4
def Lm(s:G4):T:=if s.c then .row 14906 s.v2 0 s.b.gone.length else .aO 1
def Cp(R:List (List T))(s:G4):List (Nat×Ob):=[dv R s.ic s.q,(2,⟨s.u2,7,true,true,[rR]⟩),(4,⟨s.u4,7,true,true,[[I s.b.gid,S s.b.name,I s.b.time,I s.b.eD,I s.b.next,Ll s,Lm s]]⟩)]++
 if s.c then [(14905,⟨s.v1,4,true,false,s.b.ae.map ah⟩),(14906,⟨s.v2,1,true,false,ax s.b.gone⟩)] else []
def sy(R:List (List T))(s:G4):St:={t:=[(0,.c (.ptr 0 0 0 0)),(2,.c (.ptr 2 s.u2 0 0)),(4,.c (.ptr 4 s.u4 0 0)),(5,.c (I s.i))],o:=Cp R s,n:=s.n}
def Gm(R:List (List T))(s:G4):St:={t:=[(0,.c (.ptr 0 0 0 0)),(2,.c (.ptr 2 s.u2 0 0)),(4,.c (.ptr 4 s.u4 0 0)),(5,.c (I s.i)),(21,.c (.bool false))],o:=Cp R s,n:=s.n}
structure Mm (R:List (List T)) (s:G4):Prop where
 i:s.i≤11
 b:qd s.i s.b
 c:s.ic≤R.length
 e:s.c=false→s.b.ae=[]∧s.b.gone=[]
structure NU (M:Nat→Option Body):Prop where
 add:dg.k M
 flag:de.k M
 take:cS.k M
 below:aG.k M
 text:eU.k M
 pick:dG.k M
 Lx:eO.k M
theorem KH{R:List (List T)}(s:G4)(k ic' x:Nat)(q':Int)(h1:run M 125 [.c (.ptr 0 0 0 0),.c (I 12)] [dv R s.ic s.q]=some (.c (I x),[dv R ic' q']))(hx:¬s.i<x):
  ∃n',cy (run M) k cu.l0 (sy R s)=some (.exit 0,Gm R {s with ic:=ic',q:=q',n:=n'}):=by
 obtain⟨i,b,c,u2,u4,v1,v2,ic,q,n⟩:=s;simp only at h1 hx;have e7:(b.ae.map ah).length=b.ae.length:=by simp
 have e8:=aI b.gone;simp only[sy,Gm,Cp,Ll,Lm];generalize b.ae.map ah=rm at*;generalize ax b.gone=rg at*;cases c
 ·simp (maxSteps:=9^9) [cu.l0,aa,h1,hx]
 ·simp (maxSteps:=9^9) [cu.l0,aa,h1,hx]
theorem KI{R:List (List T)}(s:G4)(k ic1 ic2 ic3 ic4 ic5 ic6 x g t w k5 f:Nat)(tx:List UInt8)(q1 q2 q3 q4 q5 q6:Int)(b':bz)(ok:Bool)(hi:s.i≤11)(hg:g<9)
  (he:s.c=false→s.b.ae=[]∧s.b.gone=[])
  (h1:run M 125 [.c (.ptr 0 0 0 0),.c (I 12)] [dv R s.ic s.q]=some (.c (I x),[dv R ic1 q1])) (hx:s.i<x)
  (h2:run M 125 [.c (.ptr 0 0 0 0),.c (I 9)] [dv R ic1 q1]=some (.c (I g),[dv R ic2 q2]))
  (h3:run M 232 [.c (.ptr 0 0 0 0)] [dv R ic2 q2]=some (.a [I t,I w],[dv R ic3 q3]))
  (h4:run M 125 [.c (.ptr 0 0 0 0),.c (I 5)] [dv R ic3 q3]=some (.c (I k5),[dv R ic4 q4]))
  (hk:k5=0∨k5=1∨k5=2)
  (h5:run M 125 [.c (.ptr 0 0 0 0),.c (I 8)] [dv R ic4 q4]=some (.c (I f),[dv R ic5 q5]))
  (h6:run M 174 [.c (.ptr 0 0 0 0)] [dv R ic5 q5]=some (.c (S tx),[dv R ic6 q6]))
  (h7:run M 81 [.a (af s.b),.c (I (10+(g:Int))),.c (I f),.c (S tx),.a [I t,I w]] []=some (.lL [.a (bM b'),.c (.bool ok)],[])):
  ∃v1' v2' n',cy (run M) k cu.l0 (sy R s)=some (.normal,sy R ⟨s.i+1,b',true,s.u2,s.u4,v1',v2',ic6,q6,n'⟩):=by
 have ez:((0:Nat):Int)=0:=rfl;obtain⟨i,b,c,u2,u4,v1,v2,ic,q,n⟩:=s;simp only at h1 hx he hi;have e3:=cz (i:=i) (by omega);have e4:IntKind.i64.wrap (10+(g:Int))=10+(g:Int):=wrap_i64 (by omega) (by omega);have e7:(b.ae.map ah).length=b.ae.length:=by simp
 have e8:=aI b.gone;have e9:(b'.ae.map ah).length=b'.ae.length:=by simp
 have e10:=aI b'.gone;have e11:(b.ae.map ah).take b.ae.length=b.ae.map ah:=ab (by omega);have e12:(ax b.gone).take b.gone.length=ax b.gone:=ab (by omega);simp only[sy,Cp,Ll,Lm];cases c
 ·obtain⟨em,eg⟩:=he rfl;simp only[af,bM,ae,ints,em,eg,bJ] at h7;simp only[mU] at h7;generalize b'.ae.map ah=rm' at*;generalize ax b'.gone=rg' at*;rcases hk with rfl|rfl|rfl
  ·simp only[ez] at h4;simp (maxSteps:=9^9) [cu.l0,aa,setAt,h1,h2,h3,h4,h5,h6,h7,hx,e3,e4,e9,e10]
  ·simp only[aM] at h4;simp (maxSteps:=9^9) [cu.l0,aa,setAt,h1,h2,h3,h4,h5,h6,h7,hx,e3,e4,e9,e10]
  ·simp only[aM] at h4;simp (maxSteps:=9^9) [cu.l0,aa,setAt,h1,h2,h3,h4,h5,h6,h7,hx,e3,e4,e9,e10]
 ·simp only[af,bM,ae,ints] at h7;generalize b'.ae.map ah=rm' at*;generalize ax b'.gone=rg' at*;generalize b.ae.map ah=rm at*;generalize ax b.gone=rg at*;rcases hk with rfl|rfl|rfl
  ·simp only[ez] at h4;simp (maxSteps:=9^9) [cu.l0,aa,setAt,h1,h2,h3,h4,h5,h6,h7,hx,e3,e4,e7,e8,e9,e10,e11,e12]
  ·simp only[aM] at h4;simp (maxSteps:=9^9) [cu.l0,aa,setAt,h1,h2,h3,h4,h5,h6,h7,hx,e3,e4,e7,e8,e9,e10,e11,e12]
  ·simp only[aM] at h4;simp (maxSteps:=9^9) [cu.l0,aa,setAt,h1,h2,h3,h4,h5,h6,h7,hx,e3,e4,e7,e8,e9,e10,e11,e12]
theorem IV{R:List (List T)}(s:G4)(k ic1 ic2 ic3 ic4 ic5 ic6 x g t w k5 f:Nat)(tx:List UInt8)(q1 q2 q3 q4 q5 q6:Int)(b':bz)(ok:Bool)(hi:s.i≤11)(hg:g<9)
  (he:s.c=false→s.b.ae=[]∧s.b.gone=[])
  (h1:run M 125 [.c (.ptr 0 0 0 0),.c (I 12)] [dv R s.ic s.q]=some (.c (I x),[dv R ic1 q1])) (hx:s.i<x)
  (h2:run M 125 [.c (.ptr 0 0 0 0),.c (I 9)] [dv R ic1 q1]=some (.c (I g),[dv R ic2 q2]))
  (h3:run M 232 [.c (.ptr 0 0 0 0)] [dv R ic2 q2]=some (.a [I t,I w],[dv R ic3 q3]))
  (h4:run M 125 [.c (.ptr 0 0 0 0),.c (I 5)] [dv R ic3 q3]=some (.c (I k5),[dv R ic4 q4]))
  (hk:k5=3)
  (h5:run M 125 [.c (.ptr 0 0 0 0),.c (I 8)] [dv R ic4 q4]=some (.c (I f),[dv R ic5 q5]))
  (h7:run M 84 [.a (af s.b),.c (I (10+(g:Int))),.c (I f),.a [I t,I w]] []=some (.lL [.a (bM b'),.c (.bool ok)],[])):
  ∃v1' v2' n',cy (run M) k cu.l0 (sy R s)=some (.normal,sy R ⟨s.i+1,b',true,s.u2,s.u4,v1',v2',ic5,q5,n'⟩):=by
 subst hk;simp only[aM] at h4;obtain⟨i,b,c,u2,u4,v1,v2,ic,q,n⟩:=s;simp only at h1 hx he hi;have e3:=cz (i:=i) (by omega);have e4:IntKind.i64.wrap (10+(g:Int))=10+(g:Int):=wrap_i64 (by omega) (by omega);have e7:(b.ae.map ah).length=b.ae.length:=by simp
 have e8:=aI b.gone;have e9:(b'.ae.map ah).length=b'.ae.length:=by simp
 have e10:=aI b'.gone;have e11:(b.ae.map ah).take b.ae.length=b.ae.map ah:=ab (by omega);have e12:(ax b.gone).take b.gone.length=ax b.gone:=ab (by omega);simp only[sy,Cp,Ll,Lm];cases c
 ·obtain⟨em,eg⟩:=he rfl;simp only[af,bM,ae,ints,em,eg,bJ] at h7;simp only[mU] at h7;generalize b'.ae.map ah=rm' at*;generalize ax b'.gone=rg' at*;simp (maxSteps:=9^9) [cu.l0,aa,setAt,h1,h2,h3,h4,h5,h7,hx,e3,e4,e9,e10]
 ·simp only[af,bM,ae,ints] at h7;generalize b'.ae.map ah=rm' at*;generalize ax b'.gone=rg' at*;generalize b.ae.map ah=rm at*;generalize ax b.gone=rg at*;simp (maxSteps:=9^9) [cu.l0,aa,setAt,h1,h2,h3,h4,h5,h7,hx,e3,e4,e7,e8,e9,e10,e11,e12]
theorem IU{R:List (List T)}(s:G4)(k ic1 ic2 ic3 ic4 ic5 ic6 x g t w k5 f:Nat)(tx:List UInt8)(q1 q2 q3 q4 q5 q6:Int)(b':bz)(ok:Bool)(hi:s.i≤11)(hg:g<9)
  (he:s.c=false→s.b.ae=[]∧s.b.gone=[])
  (h1:run M 125 [.c (.ptr 0 0 0 0),.c (I 12)] [dv R s.ic s.q]=some (.c (I x),[dv R ic1 q1])) (hx:s.i<x)
  (h2:run M 125 [.c (.ptr 0 0 0 0),.c (I 9)] [dv R ic1 q1]=some (.c (I g),[dv R ic2 q2]))
  (h3:run M 232 [.c (.ptr 0 0 0 0)] [dv R ic2 q2]=some (.a [I t,I w],[dv R ic3 q3]))
  (h4:run M 125 [.c (.ptr 0 0 0 0),.c (I 5)] [dv R ic3 q3]=some (.c (I k5),[dv R ic4 q4]))
  (hk:3<k5)
  (h7:run M 86 [.a (af s.b),.c (I (10+(g:Int)))] []=some (.lL [.a (bM b'),.c (.bool ok)],[])):
  ∃v1' v2' n',cy (run M) k cu.l0 (sy R s)=some (.normal,sy R ⟨s.i+1,b',true,s.u2,s.u4,v1',v2',ic4,q4,n'⟩):=by
 have d0:¬k5=0:=by omega
 have d1:¬k5=1:=by omega
 have d2:¬k5=2:=by omega
 have d3:¬k5=3:=by omega
 have f0:¬(k5:Int)=0:=by omega
 have f1:¬(k5:Int)=1:=by omega
 have f2:¬(k5:Int)=2:=by omega
 have f3:¬(k5:Int)=3:=by omega
 obtain⟨i,b,c,u2,u4,v1,v2,ic,q,n⟩:=s;simp only at h1 hx he hi;have e3:=cz (i:=i) (by omega);have e4:IntKind.i64.wrap (10+(g:Int))=10+(g:Int):=wrap_i64 (by omega) (by omega);have e7:(b.ae.map ah).length=b.ae.length:=by simp
 have e8:=aI b.gone;have e9:(b'.ae.map ah).length=b'.ae.length:=by simp
 have e10:=aI b'.gone;have e11:(b.ae.map ah).take b.ae.length=b.ae.map ah:=ab (by omega);have e12:(ax b.gone).take b.gone.length=ax b.gone:=ab (by omega);simp only[sy,Cp,Ll,Lm];cases c
 ·obtain⟨em,eg⟩:=he rfl;simp only[af,bM,ae,ints,em,eg,bJ] at h7;simp only[mU] at h7;generalize b'.ae.map ah=rm' at*;generalize ax b'.gone=rg' at*;simp (maxSteps:=9^9) [cu.l0,aa,setAt,h1,h2,h3,h4,h7,d0,f1,f2,f3,hx,e3,e4,e9,e10]
 ·simp only[af,bM,ae,ints] at h7;generalize b'.ae.map ah=rm' at*;generalize ax b'.gone=rg' at*;generalize b.ae.map ah=rm at*;generalize ax b.gone=rg at*;simp (maxSteps:=9^9) [cu.l0,aa,setAt,h1,h2,h3,h4,h7,d0,f1,f2,f3,hx,e3,e4,e7,e8,e9,e10,e11,e12]
theorem IT(K:NU M){R:List (List T)}(hR:Bytes R)(k:Nat)(s:G4)(hs:Mm R s):
  (∃s',cy (run M) k cu.l0 (sy R s)=some (.normal,sy R s')∧Mm R s'∧12-s'.i<12-s.i)∨
   (∃r,cy (run M) k cu.l0 (sy R s)=some r∧r.1≠.normal∧∃s',r=(.exit 0,Gm R s')∧Mm R s'):=by
 have hb:=hs.b.j2.tM;have hi:=hs.i;obtain⟨x,ic1,q1,hx,hc1,h1⟩:=aG.al K.below hR s.ic s.q hs.c 12 (by omega) (by omega);by_cases hlt:s.i<x
 ·left;obtain⟨g,ic2,q2,hg,hc2,h2⟩:=aG.al K.below hR ic1 q1 hc1 9 (by omega) (by omega);obtain⟨t,w,ic3,q3,ht,hw1,hw2,hc3,h3⟩:=eO.al K.Lx hR ic2 q2 hc2;obtain⟨k5,ic4,q4,hk5,hc4,h4⟩:=aG.al K.below hR ic3 q3 hc3 5 (by omega) (by omega);have hgr:(10:Int)≤10+(g:Int)∧10+(g:Int)≤18:=⟨by omega,by omega⟩;by_cases c1:k5≤2
  ·obtain⟨f,ic5,q5,hf,hc5,h5⟩:=aG.al K.below hR ic4 q4 hc4 8 (by omega) (by omega);obtain⟨tx,ic6,q6,htx,hc6,h6⟩:=eU.al K.text hR ic5 q5 hc5;have h7:=dg.al K.add s.b hb (10+(g:Int)) f tx t w;obtain⟨v1',v2',n',hh⟩:=KI s k ic1 ic2 ic3 ic4 ic5 ic6 x g t w k5 f tx q1 q2 q3 q4 q5 q6 _ _ hi hg hs.e h1 hlt h2 h3 h4 (by omega) h5 h6 h7;exact⟨_,hh,⟨by simp only;omega,Ek hs.b hgr _ _ _ _,hc6,fun h=>by cases h⟩,by simp only;omega⟩
  ·by_cases c2:k5=3
   ·obtain⟨f,ic5,q5,hf,hc5,h5⟩:=aG.al K.below hR ic4 q4 hc4 8 (by omega) (by omega);have h7:=de.al K.flag s.b hb (10+(g:Int)) f t w;obtain⟨v1',v2',n',hh⟩:=IV s k ic1 ic2 ic3 ic4 ic5 0 x g t w k5 f [] q1 q2 q3 q4 q5 0 _ _ hi hg hs.e h1 hlt h2 h3 h4 c2 h5 h7;exact⟨_,hh,⟨by simp only;omega,Cm hs.b _ _ _ _,hc5,fun h=>by cases h⟩,by simp only;omega⟩
   ·have h7:=cS.al K.take s.b hb (10+(g:Int));obtain⟨v1',v2',n',hh⟩:=IU s k ic1 ic2 ic3 ic4 0 0 x g t w k5 0 [] q1 q2 q3 q4 0 0 _ _ hi hg hs.e h1 hlt h2 h3 h4 (by omega) h7;exact⟨_,hh,⟨by simp only;omega,Cl hs.b hgr,hc4,fun h=>by cases h⟩,by simp only;omega⟩
 ·right;obtain⟨n',hh⟩:=KH s k ic1 x q1 h1 hlt;exact⟨_,hh,by simp,_,rfl,⟨hs.i,hs.b,hc1,hs.e⟩⟩
def B6:List (List UInt8):=[[105,110,98,111,120],[119,111,114,107],[111,108,100,57]]
theorem cu.al(h:cu.k M){R:List (List T)}(hR:Bytes R)(i:Nat)(q:Int)(hi:i≤R.length):
  ∃(b:bz) (i':Nat) (q':Int),qd 11 b∧i'≤R.length∧run M 154 [.c (.ptr 0 0 0 0)] [dv R i q]=some (.a (bM b),[dv R i' q']):=by
 obtain⟨h0,ka,kf,kt,kb,kx,kp,ks⟩:=h;obtain⟨t,w,ic1,q1,ht,hw1,hw2,hc1,h1⟩:=eO.al ks hR i q hi;obtain⟨nm,ic2,q2,hnm,hc2,h2⟩:=dG.al kp hR ic1 q1 hc1 B6 (by decide) (by decide);obtain⟨y,ic3,q3,hy,hc3,h3⟩:=aG.al kb hR ic2 q2 hc2 4 (by omega) (by omega);have hname:nw nm=true:=by
  have:∀s∈B6,nw s=true:=by decide
  exact this nm hnm
 have e1:IntKind.i64.wrap (1+(y:Int))=1+(y:Int):=wrap_i64 (by omega) (by omega);have hG:qd 0 {gid:=7,name:=nm,time:=t,eD:=w,next:=1+(y:Int),ae:=[],gone:=[]}:=by
  refine⟨⟨by simp only;omega,hname, ?_,by simp only;omega,by simp,List.Pairwise.nil,by simp,by simp,by simp,List.Pairwise.nil,List.Pairwise.nil⟩,by simp,by simp,by simp only;omega,by simp⟩;simp only[kz,ak];exact⟨i_.2 ⟨by omega,by omega⟩,i_.2 ⟨by omega,by omega⟩⟩
 obtain⟨r,hr,⟨⟨j,b,c,u2,u4,v1,v2,ic,q',n⟩,rfl,hI⟩⟩:=kC (f:=cy (run M) 13 cu.l0) (sy R) (Mm R) (fun s=>12-s.i) (fun r=>∃s',r=(.exit 0,Gm R s')∧Mm R s')
  (fun s hs=>IT ⟨ka,kf,kt,kb,kx,kp,ks⟩ hR 13 s hs) 13 ⟨0,{gid:=7,name:=nm,time:=t,eD:=w,next:=1+(y:Int),ae:=[],gone:=[]},false,2000000,2000208,0,0,ic3,q3,2000256⟩ ⟨by simp,hG,hc3,fun _=>⟨rfl,rfl⟩⟩ (by simp)
 obtain⟨hji,hD,hc,hE⟩:=hI;simp only at hji hD hc hE;refine⟨b,ic,q',hD.mono hji,hc,ao (b:=cu.m) h0 ⟨13, ?_⟩⟩;simp only[B6,bB,bJ,S,bs] at h2;simp only[aM] at h3;have e7:(b.ae.map ah).length=b.ae.length:=by simp
 have e8:=aI b.gone;have e11:(b.ae.map ah).take b.ae.length=b.ae.map ah:=ab (by omega);have e12:(ax b.gone).take b.gone.length=ax b.gone:=ab (by omega);simp only[sy,Gm,Cp,Ll,Lm] at hr;cases c
 ·obtain⟨em,eg⟩:=hE rfl;simp at hr;simp only[bM,em,eg,bJ,mU];simp (maxSteps:=9^9) [a8,cu.m,cu.b,aa,setAt,hr,h1,h2,h3,e1]
 ·simp at hr;simp only[bM];generalize b.ae.map ah=rm at*;generalize ax b.gone=rg at*;simp (maxSteps:=9^9) [a8,cu.m,cu.b,aa,setAt,hr,h1,h2,h3,e1,e7,e8,e11,e12]
theorem fe.al(h:fe.k M){R:List (List T)}(hR:Bytes R)(i:Nat)(q:Int)(hi:i≤R.length)(ns:List Int)(h0:0<ns.length)(hn:ns.length≤256):
  ∃(s:Int) (i':Nat) (q':Int),s∈ns∧i'≤R.length∧run M 179 [.c (.ptr 0 0 0 0),.c (.sl false 1 (ns.map fun s=>[I s]))] [dv R i q]=some (.c (I s),[dv R i' q']):=by
 obtain⟨hm,k1⟩:=h;obtain⟨x,i1,q1,hx,hi1,h1⟩:=aG.al k1 hR i q hi ns.length h0 (by omega);refine⟨ns[x],i1,q1,ar hx,hi1, ?_⟩;refine ao (b:=fe.m) hm ⟨0, ?_⟩;simp (maxSteps:=9^9) [a8,fe.m,fe.b,aa,h1,hx]
theorem iD.al(h:iD.k M){R:List (List T)}(hR:Bytes R)(i:Nat)(q:Int)(hi:i≤R.length)(n:Nat)(h0:0<n)(hn:n≤256):
  ∃(s:Bool) (i':Nat) (q':Int),i'≤R.length∧run M 175 [.c (.ptr 0 0 0 0),.c (I n)] [dv R i q]=some (.c (.bool s),[dv R i' q']):=by
 obtain⟨hm,k1⟩:=h;obtain⟨x,i1,q1,hx,hi1,h1⟩:=aG.al k1 hR i q hi n h0 (by omega);refine⟨decide (x=0),i1,q1,hi1, ?_⟩;refine ao (b:=iD.m) hm ⟨0, ?_⟩;simp (maxSteps:=9^9) [a8,iD.m,iD.b,aa,h1]
theorem gd.al(h:gd.k M){R:List (List T)}(hR:Bytes R)(i:Nat)(q:Int)(hi:i≤R.length):
  ∃(t w:Int) (i':Nat) (q':Int),i'≤R.length∧run M 177 [.c (.ptr 0 0 0 0)] [dv R i q]=some (.a [I t,I w],[dv R i' q']):=by
 obtain⟨hm,kb,kp,ks⟩:=h;obtain⟨t,w,i1,q1,ht,hw1,hw2,hi1,h1⟩:=eO.al ks hR i q hi;obtain⟨x,i2,q2,hx,hi2,h2⟩:=aG.al kb hR i1 q1 hi1 8 (by omega) (by omega);simp only[aM] at h2;by_cases c0:x=0
 ·obtain⟨s,i3,q3,hs,hi3,h3⟩:=fe.al kp hR i2 q2 hi2 [-1,100000,100001] (by decide) (by decide);simp only[bB,bJ] at h3;have c1:(x:Int)=0:=by omega
  refine⟨s,w,i3,q3,hi3,ao (b:=gd.m) hm ⟨0, ?_⟩⟩;simp (maxSteps:=9^9) [a8,gd.m,gd.b,aa,setAt,h1,h2,h3,c0]
 ·have d0:¬(x:Int)=0:=by omega
  by_cases c1:x=1
  ·obtain⟨s,i3,q3,hs,hi3,h3⟩:=fe.al kp hR i2 q2 hi2 [-1,0,3] (by decide) (by decide);simp only[bB,bJ] at h3;have d1:(x:Int)=1:=by omega
   refine⟨t,s,i3,q3,hi3,ao (b:=gd.m) hm ⟨0, ?_⟩⟩;simp (maxSteps:=9^9) [a8,gd.m,gd.b,aa,setAt,h1,h2,h3,c1]
  ·have d1:¬(x:Int)=1:=by omega
   refine⟨t,w,i2,q2,hi2,ao (b:=gd.m) hm ⟨0, ?_⟩⟩;simp (maxSteps:=9^9) [a8,gd.m,gd.b,aa,setAt,h1,h2,c0,d1]
theorem jy.al(h:jy.k M){R:List (List T)}(hR:Bytes R)(i:Nat)(q:Int)(hi:i≤R.length):
  ∃(r:mB) (i':Nat) (q':Int),i'≤R.length∧run M 299 [.c (.ptr 0 0 0 0)] [dv R i q]=some (.a (aF r),[dv R i' q']):=by
 obtain⟨hm,ka,kp⟩:=h;obtain⟨t,w,i1,q1,hi1,h1⟩:=gd.al ka hR i q hi;obtain⟨s,i2,q2,hs,hi2,h2⟩:=fe.al kp hR i1 q1 hi1 [0,1,1,7,-1,1000000001] (by decide) (by decide);simp only[bB,bJ] at h2;refine⟨⟨s,t,w⟩,i2,q2,hi2,ao (b:=jy.m) hm ⟨0, ?_⟩⟩;simp (maxSteps:=9^9) [a8,jy.m,jy.b,aa,setAt,h1,h2]
structure Mj where
 i:Nat
 l:List mB
 v:Nat
 ic:Nat
 q:Int
 n:Nat
def Mc(R:List (List T))(s:Mj):List (Nat×Ob):=[dv R s.ic s.q,(6,⟨s.v,3,true,false,s.l.map aF⟩)]
def Hc(R:List (List T))(s:Mj):St:={t:=[(0,.c (.ptr 0 0 0 0)),(3,.c (.row 6 s.v 0 s.i)),(4,.c (I s.i))],o:=Mc R s,n:=s.n}
def Md(R:List (List T))(s:Mj):St:={t:=[(0,.c (.ptr 0 0 0 0)),(3,.c (.row 6 s.v 0 s.i)),(4,.c (I s.i)),(8,.c (.bool false))],o:=Mc R s,n:=s.n}
structure Mk (R:List (List T)) (s:Mj):Prop where
 i:s.i≤3
 l:s.l.length=s.i
 c:s.ic≤R.length
theorem IG(kb:aG.k M)(ks:eO.k M){R:List (List T)}(hR:Bytes R)(k:Nat)(s:Mj)(hs:Mk R s):
  (∃s',cy (run M) k db.l0 (Hc R s)=some (.normal,Hc R s')∧Mk R s'∧3-s'.i<3-s.i)∨
   (∃r,cy (run M) k db.l0 (Hc R s)=some r∧r.1≠.normal∧∃s',r=(.exit 0,Md R s')∧s'.i=3∧Mk R s'):=by
 obtain⟨i,l,v,ic,q,n⟩:=s;obtain⟨hi,hl,hc⟩:=hs;simp only at hi hl hc;obtain⟨t,w,ic1,q1,ht,hw1,hw2,hc1,h1⟩:=eO.al ks hR ic q hc;obtain⟨x,ic2,q2,hx,hc2,h2⟩:=aG.al kb hR ic1 q1 hc1 2 (by omega) (by omega);simp only[aM] at h2;by_cases hlt:i<3
 ·left;have hlt2:(i:Int)<3:=by omega
  have e3:=cz (i:=i) (by omega);have e5:i+1≤4294967296:=by omega
  have e6:(l++[(⟨x,t,w⟩:mB)]).map aF=l.map aF++[[I x,I t,I w]]:=by simp
  have e7:(l.map aF).length=i:=by simp[hl]
  have e8:(l.map aF).take i=l.map aF:=ab (by omega);have hh:∃v' n',cy (run M) k db.l0 (Hc R ⟨i,l,v,ic,q,n⟩)=some (.normal,Hc R ⟨i+1,l++[⟨x,t,w⟩],v',ic2,q2,n'⟩):=by
   simp only[Hc,Mc,e6];generalize l.map aF=rl at*;simp (maxSteps:=9^9) [db.l0,aa,setAt,h1,h2,hlt2,e3,e5,e7,e8]
  obtain⟨v',n',hh⟩:=hh;exact⟨_,hh,⟨by simp only;omega,by simp[hl],hc2⟩,by simp only;omega⟩
 ·right;have hlt2:¬(i:Int)<3:=by omega
  have hh:∃n',cy (run M) k db.l0 (Hc R ⟨i,l,v,ic,q,n⟩)=some (.exit 0,Md R ⟨i,l,v,ic,q,n'⟩):=by
   simp only[Hc,Md,Mc];simp (maxSteps:=9^9) [db.l0,aa,hlt2]
  obtain⟨n',hh⟩:=hh;exact⟨_,hh,by simp,_,rfl,by simp only;omega,⟨hi,hl,hc⟩⟩
theorem db.al(h:db.k M){R:List (List T)}(hR:Bytes R)(i:Nat)(q:Int)(hi:i≤R.length):
  ∃(l:List mB) (i':Nat) (q':Int),l.length=3∧i'≤R.length∧run M 298 [.c (.ptr 0 0 0 0)] [dv R i q]=some (.c (.sl true 3 (l.map aF)),[dv R i' q']):=by
 obtain⟨h0,k1,k2⟩:=h;obtain⟨r,hr,⟨⟨j,l,v,ic',q',n⟩,rfl,hj,hI⟩⟩:=kC (f:=cy (run M) 4 db.l0) (Hc R) (Mk R) (fun s=>3-s.i) (fun r=>∃s',r=(.exit 0,Md R s')∧s'.i=3∧Mk R s')
  (fun s hs=>IG k1 k2 hR 4 s hs) 4 ⟨0,[],2000016,i,q,2000064⟩ ⟨by simp,by simp,hi⟩ (by simp)
 obtain⟨_,hl,hc'⟩:=hI;simp only at hj hl hc';refine⟨l,ic',q',by omega,hc',ao (b:=db.m) h0 ⟨4, ?_⟩⟩;have e7:(l.map aF).length=j:=by simp[hl]
 have e8:(l.map aF).take j=l.map aF:=ab (by omega);simp only[Hc,Md,Mc] at hr;generalize l.map aF=rl at*;simp at hr;simp (maxSteps:=9^9) [a8,db.m,db.b,aa,hr,e7,e8]
theorem fL.al(h:fL.k M){R:List (List T)}(hR:Bytes R)(i:Nat)(q:Int)(hi:i≤R.length):
  ∃(l:List mB) (i':Nat) (q':Int),l.length≤4∧i'≤R.length∧run M 274 [.c (.ptr 0 0 0 0)] [dv R i q]=some (.c (.sl false 3 (l.map aF)),[dv R i' q']):=by
 obtain⟨hm,kb,kf,kr⟩:=h;obtain⟨x,i1,q1,hx,hi1,h1⟩:=aG.al kb hR i q hi 10 (by omega) (by omega);obtain⟨l,i2,q2,hl,hi2,h2⟩:=db.al kf hR i1 q1 hi1;simp only[aM] at h1;have e7:(l.map aF).length=3:=by simp[hl]
 have e8:(l.map aF).take 3=l.map aF:=ab (by omega);by_cases c0:x=0
 ·have d0:(x:Int)=0:=by omega
  have e6:(l++[(⟨0,0,0⟩:mB)]).map aF=l.map aF++[[I 0,I 0,I 0]]:=by simp
  refine⟨l++[⟨0,0,0⟩],i2,q2,by simp[hl],hi2,ao (b:=fL.m) hm ⟨0, ?_⟩⟩;rw[e6];generalize l.map aF=rl at*;simp (maxSteps:=9^9) [a8,fL.m,fL.b,aa,h1,h2,c0,e7,e8,ab]
 ·have d0:¬(x:Int)=0:=by omega
  by_cases c1:x=1
  ·have d1:(x:Int)=1:=by omega
   have e6:(l.drop 1).map aF=(l.map aF).drop 1:=by simp
   have e9:((l.map aF).drop 1).length=2:=by simp[hl]
   have e10:((l.map aF).drop 1).take 2=(l.map aF).drop 1:=ab (by omega);refine⟨l.drop 1,i2,q2,by simp[hl],hi2,ao (b:=fL.m) hm ⟨0, ?_⟩⟩;rw[e6];generalize l.map aF=rl at*;simp (maxSteps:=9^9) [a8,fL.m,fL.b,aa,h1,h2,c1,e7];simpa using e10
  ·have d1:¬(x:Int)=1:=by omega
   by_cases c2:x=2
   ·have d2:(x:Int)=2:=by omega
    obtain⟨y,i3,q3,hy,hi3,h3⟩:=aG.al kb hR i2 q2 hi2 3 (by omega) (by omega);obtain⟨r,i4,q4,hi4,h4⟩:=jy.al kr hR i3 q3 hi3;simp only[aM] at h3;have e6:(l.set y r).map aF=(l.map aF).set y [I r.val,I r.time,I r.eD]:=by rw[fR]
    have e9:((l.map aF).set y [I r.val,I r.time,I r.eD]).take 3=(l.map aF).set y [I r.val,I r.time,I r.eD]:=ab (by simp[hl]);have e11:((l.map aF)[y]'(by rw[e7];exact hy)).length=3:=by rw[fb];rfl
    have e12:((l.map aF)[y]'(by rw[e7];exact hy)).drop 3=[]:=by rw[fb];rfl
    refine⟨l.set y r,i4,q4,by simp[hl],hi4,ao (b:=fL.m) hm ⟨0, ?_⟩⟩;rw[e6];generalize l.map aF=rl at*;simp (maxSteps:=9^9) [a8,fL.m,fL.b,aa,setAt,h1,h2,h3,h4,c2,e7,e9,e11,e12,hy]
   ·have d2:¬(x:Int)=2:=by omega
    refine⟨l,i2,q2,by omega,hi2,ao (b:=fL.m) hm ⟨0, ?_⟩⟩;generalize l.map aF=rl at*;simp (maxSteps:=9^9) [a8,fL.m,fL.b,aa,h1,h2,c0,d1,d2,e7,e8]
theorem iT.al(h:iT.k M){R:List (List T)}(hR:Bytes R)(i:Nat)(q:Int)(hi:i≤R.length):
  ∃(m:bp) (i':Nat) (q':Int),m.flags.length=3∧i'≤R.length∧m.gid<10∧run M 273 [.c (.ptr 0 0 0 0)] [dv R i q]=some (.a [I m.gid,I m.uid,.sl true 3 (m.flags.map aF),S m.text],[dv R i' q']):=by
 obtain⟨hm,kb,kx,kf⟩:=h;obtain⟨x,i1,q1,hx,hi1,h1⟩:=aG.al kb hR i q hi 6 (by omega) (by omega);obtain⟨y,i2,q2,hy,hi2,h2⟩:=aG.al kb hR i1 q1 hi1 6 (by omega) (by omega);obtain⟨l,i3,q3,hl,hi3,h3⟩:=db.al kf hR i2 q2 hi2;obtain⟨s,i4,q4,hs,hi4,h4⟩:=eU.al kx hR i3 q3 hi3;simp only[aM] at h1 h2;have e1:IntKind.i64.wrap (1+(x:Int))=1+(x:Int):=wrap_i64 (by omega) (by omega);have e2:IntKind.i64.wrap (1+(y:Int))=1+(y:Int):=wrap_i64 (by omega) (by omega);have e7:(l.map aF).length=3:=by simp[hl]
 have e8:(l.map aF).take 3=l.map aF:=ab (by omega);refine⟨⟨1+x,1+y,l,s⟩,i4,q4,hl,hi4,by simp only;omega,ao (b:=iT.m) hm ⟨0, ?_⟩⟩;simp only;generalize l.map aF=rl at*;simp (maxSteps:=9^9) [a8,iT.m,iT.b,aa,setAt,h1,h2,h3,h4,e1,e2,e7,e8]
structure NH where
 i:Nat
 l:List UInt8
 n:Nat
def G7(v m:Nat)(s:NH):St:={t:=[(0,.c (I m)),(1,.c (.int .u8 97)),(5,.c (.row 8 v 0 m)),(6,.c (I s.i))],o:=[(8,⟨v,1,true,false,lq s.l⟩)],n:=s.n}
def LR(v m:Nat)(s:NH):St:={t:=[(0,.c (I m)),(1,.c (.int .u8 97)),(5,.c (.row 8 v 0 m)),(6,.c (I s.i)),(11,.c (.bool false))],o:=[(8,⟨v,1,true,false,lq s.l⟩)],n:=s.n}
theorem Gq(l:List UInt8)(i:Nat)(b:UInt8):(lq l).set i [.int .u8 (b.toNat:Int)]=lq (l.set i b):=by
 simp[lq,fR]
theorem H5(k v m:Nat)(hm:m≤1000)(s:NH)(hs:s.i≤m∧s.l.length=m):
  (∃s',cy (run M) k dH.l0 (G7 v m s)=some (.normal,G7 v m s')∧(s'.i≤m∧s'.l.length=m)∧m-s'.i<m-s.i)∨
   (∃r,cy (run M) k dH.l0 (G7 v m s)=some r∧r.1≠.normal∧∃s',r=(.exit 0,LR v m s')∧s'.l.length=m):=by
 obtain⟨i,l,n⟩:=s;obtain⟨hi,hl⟩:=hs;simp only at hi hl;by_cases hlt:i<m
 ·left;have hlt2:(i:Int)<(m:Int):=by omega
  have e3:=cz (i:=i) (by omega);have e7:(lq l).length=m:=by simp[lq,hl]
  have e6:(lq l).set i [.int .u8 97]=lq (l.set i 97):=Gq l i 97;have e8:∀hh,((lq l)[i]'hh).length=1:=by intro hh;simp[lq]
  have e9:∀hh,((lq l)[i]'hh).drop 1=[]:=by intro hh;simp[lq]
  have hh:∃n',cy (run M) k dH.l0 (G7 v m ⟨i,l,n⟩)=some (.normal,G7 v m ⟨i+1,l.set i 97,n'⟩):=by
   simp only[G7,←e6];generalize lq l=rl at*;simp (maxSteps:=9^9) [dH.l0,setAt,hlt,hlt2,e3,e7,e8,e9]
  obtain⟨n',hh⟩:=hh;exact⟨_,hh,⟨by simp only;omega,by simp[hl]⟩,by simp only;omega⟩
 ·right;have hlt2:¬(i:Int)<(m:Int):=by omega
  have hh:∃n',cy (run M) k dH.l0 (G7 v m ⟨i,l,n⟩)=some (.exit 0,LR v m ⟨i,l,n'⟩):=by
   simp only[G7,LR];simp (maxSteps:=9^9) [dH.l0,hlt2]
  obtain⟨n',hh⟩:=hh;exact⟨_,hh,by simp,_,rfl,hl⟩
theorem Cz(m:Nat):lq (List.replicate m 0)=List.replicate m [.int .u8 0]:=by simp[lq]
theorem dH.al(h:dH.k M)(m:Nat)(hm:m≤1000):∃s:List UInt8,s.length=m∧run M 176 [.c (I m),.c (.int .u8 97)] []=some (.c (S s),[]):=by
 obtain⟨r,hr,⟨⟨j,l,n⟩,rfl,hl⟩⟩:=kC (f:=cy (run M) (m+1) dH.l0) (G7 2000032 m) (fun s=>s.i≤m∧s.l.length=m) (fun s=>m-s.i) (fun r=>∃s',r=(.exit 0,LR 2000032 m s')∧s'.l.length=m)
  (fun s hs=>H5 (m+1) 2000032 m hm s hs) (m+1) ⟨0,List.replicate m 0,2000080⟩ ⟨by simp,by simp⟩ (by simp)
 simp only at hl;refine⟨l,hl,ao (b:=dH.m) h ⟨m+1, ?_⟩⟩;simp only[G7,LR,Cz] at hr;have e7:(lq l).length=m:=by simp[lq,hl]
 have e8:(lq l).take m=lq l:=ab (by omega);have e9:m≤4294967296:=by omega
 have e10:m≤140737488355328:=by omega
 simp at hr;simp (maxSteps:=9^9) [a8,dH.m,dH.b,aa,hr,e7,e8,e9,e10]
theorem b8.al(h:b8.k M){R:List (List T)}(hR:Bytes R)(i:Nat)(q:Int)(hi:i≤R.length):
  ∃(m:bp) (i':Nat) (q':Int),m.flags.length≤4∧i'≤R.length∧(m.gid<10∨18<m.gid)∧run M 237 [.c (.ptr 0 0 0 0)] [dv R i q]=some (.a [I m.gid,I m.uid,.sl false 3 (m.flags.map aF),S m.text],[dv R i' q']):=by
 obtain⟨hm,kb,kl,km,ka⟩:=h;obtain⟨x,i1,q1,hx,hi1,h1⟩:=aG.al kb hR i q hi 10 (by omega) (by omega);obtain⟨y,i2,q2,hy,hi2,h2⟩:=aG.al kb hR i1 q1 hi1 60 (by omega) (by omega);obtain⟨m,i3,q3,hl,hi3,hgid,h3⟩:=iT.al km hR i2 q2 hi2;simp only[aM] at h1 h2;have e7:(m.flags.map aF).length=3:=by simp[hl]
 by_cases c0:x=0
 ·have d0:(x:Int)=0:=by omega
  obtain⟨z,hz,ez⟩:=kG y 4 (by omega);simp only[aM] at ez;have hz4:z=0∨z=1∨z=2∨z=3:=by omega
  rcases hz4 with rfl|rfl|rfl|rfl
  ·refine⟨⟨0,m.uid,m.flags,m.text⟩,i3,q3,by simp only;omega,hi3,by simp only;omega,ao (b:=b8.m) hm ⟨0, ?_⟩⟩;simp only;generalize m.flags.map aF=rl at*;simp (maxSteps:=9^9) [a8,b8.m,b8.b,aa,setAt,h1,h2,h3,ez,c0]
  ·refine⟨⟨9999,m.uid,m.flags,m.text⟩,i3,q3,by simp only;omega,hi3,by simp only;omega,ao (b:=b8.m) hm ⟨0, ?_⟩⟩;simp only;generalize m.flags.map aF=rl at*;simp (maxSteps:=9^9) [a8,b8.m,b8.b,aa,setAt,h1,h2,h3,ez,c0]
  ·refine⟨⟨10000,m.uid,m.flags,m.text⟩,i3,q3,by simp only;omega,hi3,by simp only;omega,ao (b:=b8.m) hm ⟨0, ?_⟩⟩;simp only;generalize m.flags.map aF=rl at*;simp (maxSteps:=9^9) [a8,b8.m,b8.b,aa,setAt,h1,h2,h3,ez,c0]
  ·refine⟨⟨(-1),m.uid,m.flags,m.text⟩,i3,q3,by simp only;omega,hi3,by simp only;omega,ao (b:=b8.m) hm ⟨0, ?_⟩⟩;simp only;generalize m.flags.map aF=rl at*;simp (maxSteps:=9^9) [a8,b8.m,b8.b,aa,setAt,h1,h2,h3,ez,c0]
 have d0:¬(x:Int)=0:=by omega
 by_cases c1:x=1
 ·have d1:(x:Int)=1:=by omega
  obtain⟨z,hz,ez⟩:=kG y 3 (by omega);simp only[aM] at ez;have hz4:z=0∨z=1∨z=2:=by omega
  rcases hz4 with rfl|rfl|rfl
  ·refine⟨⟨m.gid,0,m.flags,m.text⟩,i3,q3,by simp only;omega,hi3,by simp only;omega,ao (b:=b8.m) hm ⟨0, ?_⟩⟩;simp only;generalize m.flags.map aF=rl at*;simp (maxSteps:=9^9) [a8,b8.m,b8.b,aa,setAt,h1,h2,h3,ez,c1]
  ·refine⟨⟨m.gid,9999,m.flags,m.text⟩,i3,q3,by simp only;omega,hi3,by simp only;omega,ao (b:=b8.m) hm ⟨0, ?_⟩⟩;simp only;generalize m.flags.map aF=rl at*;simp (maxSteps:=9^9) [a8,b8.m,b8.b,aa,setAt,h1,h2,h3,ez,c1]
  ·refine⟨⟨m.gid,10000,m.flags,m.text⟩,i3,q3,by simp only;omega,hi3,by simp only;omega,ao (b:=b8.m) hm ⟨0, ?_⟩⟩;simp only;generalize m.flags.map aF=rl at*;simp (maxSteps:=9^9) [a8,b8.m,b8.b,aa,setAt,h1,h2,h3,ez,c1]
 have d1:¬(x:Int)=1:=by omega
 by_cases c2:x=2
 ·have d2:(x:Int)=2:=by omega
  obtain⟨fl,i4,q4,hl4,hi4,h4⟩:=fL.al ka hR i3 q3 hi3;refine⟨⟨m.gid,m.uid,fl,m.text⟩,i4,q4,hl4,hi4,by simp only;omega,ao (b:=b8.m) hm ⟨0, ?_⟩⟩;simp only;generalize m.flags.map aF=rl at*;generalize fl.map aF=rl2 at*;simp (maxSteps:=9^9) [a8,b8.m,b8.b,aa,setAt,h1,h2,h3,h4,c2]
 have d2:¬(x:Int)=2:=by omega
 by_cases c3:x=3
 ·have d3:(x:Int)=3:=by omega
  obtain⟨z,hz,ez⟩:=kG y 2 (by omega);simp only[aM] at ez;have e9:IntKind.i64.wrap (60+(z:Int))=((60+z:Nat):Int):=wrap_i64 (by omega) (by omega);obtain⟨w,hw⟩:∃w,60+z=w:=⟨_,rfl⟩
  rw[hw] at e9;obtain⟨s,hs,h4⟩:=dH.al kl w (by omega);refine⟨⟨m.gid,m.uid,m.flags,s⟩,i3,q3,by simp only;omega,hi3,by simp only;omega,ao (b:=b8.m) hm ⟨0, ?_⟩⟩;simp only;generalize m.flags.map aF=rl at*;simp (maxSteps:=9^9) [a8,b8.m,b8.b,aa,setAt,h1,h2,h3,h4,ez,e9,c3]
 have d3:¬(x:Int)=3:=by omega
 refine⟨m,i3,q3,by omega,hi3,by omega,ao (b:=b8.m) hm ⟨0, ?_⟩⟩;generalize m.flags.map aF=rl at*;simp (maxSteps:=9^9) [a8,b8.m,b8.b,aa,setAt,h1,h2,h3,c0,d1,d2,d3]
theorem Good.flags{b:bz}(h:Good b):∀m∈b.ae,m.flags.length≤4:=fun m hm=>by have:=(nI (h.AI m hm).1).2.2.1;omega
theorem nodup_range:∀(n:Nat) (lo:Int) (l:List Int),l.Nodup→(∀x∈l,lo≤x∧x<lo+n)→l.length≤n
 |0,lo,l,_,h=>by
  cases l with
  |nil=>simp
  |cons x l=>have:=h x (bh ..);omega
 |n+1,lo,l,hn,h=>by
  have h1:=nodup_range n lo (l.erase (lo+n)) (hn.erase _) fun x hx=>by
   obtain⟨q1,q2⟩:=hn.mem_erase_iff.1 hx;have:=h x q2;omega
  have h2:=List.le_length_erase (a:=lo+(n:Int)) (l:=l);omega
theorem Ej{i:Nat}{b:bz}(h:qd i b):b.ae.length≤9:=by
 have h1:=nodup_range 9 10 (b.ae.map (·.gid)) (List.pairwise_map.2 h.j2.eI) fun x hx=>by
  obtain⟨m,hm,rfl⟩:=List.mem_map.1 hx;have:=h.m m hm;omega
 simpa using h1
theorem cp.EX(h:cp.k M){R:List (List T)}(hR:Bytes R)(i:Nat)(q:Int)(hi:i≤R.length):
  ∃(b:bz) (i':Nat) (q':Int),((iw b∧b.ae.Pairwise (fun a c=>a.gid≠c.gid))∧b.ae.length≤10∧b.gone.length≤50∧0≤b.next∧b.next≤100)∧i'≤R.length∧run M 173 [.c (.ptr 0 0 0 0)] [dv R i q]=some (.a (bM b),[dv R i' q']):=by
 obtain⟨hm,kb,kx,ks,kc,km⟩:=h;obtain⟨x,i1,q1,hx,hi1,h1⟩:=aG.al kb hR i q hi 14 (by omega) (by omega);obtain⟨y,i2,q2,hy,hi2,h2⟩:=aG.al kb hR i1 q1 hi1 60 (by omega) (by omega);obtain⟨b,i3,q3,hD,hi3,h3⟩:=cu.al kx hR i2 q2 hi2;have hB:=hD.j2.tM;have h4:=b5.al kc b hB;simp only[aM] at h1 h2;have e7:(b.ae.map ah).length=b.ae.length:=by simp
 have e8:=aI b.gone;have hml:=hD.j2.len;have hgl:=hD.gl;have hm9:=Ej hD;have hnx:=hD.nx;have hnx1:=hD.j2.next.1;have e11:(b.ae.map ah).take b.ae.length=b.ae.map ah:=ab (by omega);have e12:(ax b.gone).take b.gone.length=ax b.gone:=ab (by omega);simp only[af,bM,ae,ints] at h3 h4 ⊢;by_cases c0:x=0
 ·have d0:(x:Int)=0:=by omega
  obtain⟨z,hz,ez⟩:=kG y 3 (by omega);simp only[aM] at ez;refine⟨{b with gid:=z},i3,q3, ?_,hi3,ao (b:=cp.m) hm ⟨0, ?_⟩⟩
  ·exact⟨⟨⟨hB.m,hB.g,hB.n,hB.f⟩,hD.j2.eI⟩,⟨by first|omega|(simp only;omega)|(simp;omega),by first|omega|(simp only;omega)|(simp;omega),by first|omega|(simp only;omega)|(simp;omega),by first|omega|(simp only;omega)|(simp;omega)⟩⟩
  simp only;generalize b.ae.map ah=rm at*;generalize ax b.gone=rg at*;simp (maxSteps:=9^9) [a8,cp.m,cp.b,aa,setAt,h1,h2,h3,h4,c0,e7,e8,e11,e12,ez]
 have d0:¬(x:Int)=0:=by omega
 by_cases c1:x=1
 ·have d1:(x:Int)=1:=by omega
  obtain⟨z,hz,ez⟩:=kG y 3 (by omega);simp only[aM] at ez;have hz4:z=0∨z=1∨z=2:=by omega
  rcases hz4 with rfl|rfl|rfl
  ·skip
   refine⟨{b with name:=[]},i3,q3, ?_,hi3,ao (b:=cp.m) hm ⟨0, ?_⟩⟩
   ·exact⟨⟨⟨hB.m,hB.g,by simp,hB.f⟩,hD.j2.eI⟩,⟨by first|omega|(simp only;omega)|(simp;omega),by first|omega|(simp only;omega)|(simp;omega),by first|omega|(simp only;omega)|(simp;omega),by first|omega|(simp only;omega)|(simp;omega)⟩⟩
   simp only;generalize b.ae.map ah=rm at*;generalize ax b.gone=rg at*;simp (maxSteps:=9^9) [a8,cp.m,cp.b,aa,setAt,h1,h2,h3,h4,c1,e7,e8,e11,e12,ez]
  ·skip
   refine⟨{b with name:=[65]},i3,q3, ?_,hi3,ao (b:=cp.m) hm ⟨0, ?_⟩⟩
   ·exact⟨⟨⟨hB.m,hB.g,by simp,hB.f⟩,hD.j2.eI⟩,⟨by first|omega|(simp only;omega)|(simp;omega),by first|omega|(simp only;omega)|(simp;omega),by first|omega|(simp only;omega)|(simp;omega),by first|omega|(simp only;omega)|(simp;omega)⟩⟩
   simp only;generalize b.ae.map ah=rm at*;generalize ax b.gone=rg at*;simp (maxSteps:=9^9) [a8,cp.m,cp.b,aa,setAt,h1,h2,h3,h4,c1,e7,e8,e11,e12,ez]
  ·skip
   refine⟨{b with name:=[116,104,105,114,116,101,101,110,115,105,103,110,115]},i3,q3, ?_,hi3,ao (b:=cp.m) hm ⟨0, ?_⟩⟩
   ·exact⟨⟨⟨hB.m,hB.g,by simp,hB.f⟩,hD.j2.eI⟩,⟨by first|omega|(simp only;omega)|(simp;omega),by first|omega|(simp only;omega)|(simp;omega),by first|omega|(simp only;omega)|(simp;omega),by first|omega|(simp only;omega)|(simp;omega)⟩⟩
   simp only;generalize b.ae.map ah=rm at*;generalize ax b.gone=rg at*;simp (maxSteps:=9^9) [a8,cp.m,cp.b,aa,setAt,h1,h2,h3,h4,c1,e7,e8,e11,e12,ez]
 have d1:¬(x:Int)=1:=by omega
 by_cases c2:x=2
 ·have d2:(x:Int)=2:=by omega
  obtain⟨z,hz,ez⟩:=kG y 5 (by omega);simp only[aM] at ez;refine⟨{b with next:=z},i3,q3, ?_,hi3,ao (b:=cp.m) hm ⟨0, ?_⟩⟩
  ·exact⟨⟨⟨hB.m,hB.g,hB.n,hB.f⟩,hD.j2.eI⟩,⟨by first|omega|(simp only;omega)|(simp;omega),by first|omega|(simp only;omega)|(simp;omega),by first|omega|(simp only;omega)|(simp;omega),by first|omega|(simp only;omega)|(simp;omega)⟩⟩
  simp only;generalize b.ae.map ah=rm at*;generalize ax b.gone=rg at*;simp (maxSteps:=9^9) [a8,cp.m,cp.b,aa,setAt,h1,h2,h3,h4,c2,e7,e8,e11,e12,ez]
 have d2:¬(x:Int)=2:=by omega
 by_cases c3:x=3
 ·have d3:(x:Int)=3:=by omega
  obtain⟨m,i4,q4,hl4,hi4,hgid,h5⟩:=b8.al km hR i3 q3 hi3;have e13:b.ae.length+1≤4294967296:=by omega
  have e14:(b.ae++[m]).map ah=b.ae.map ah++[[I m.gid,I m.uid,.sl false 3 (m.flags.map aF),S m.text]]:=by simp
  refine⟨{b with ae:=b.ae++[m]},i4,q4, ?_,hi4,ao (b:=cp.m) hm ⟨0, ?_⟩⟩
  ·refine⟨⟨⟨by simp;omega,hB.g,hB.n,fun m' hm'=> ?_⟩,List.pairwise_append.2 ⟨hD.j2.eI,List.pairwise_singleton _ _,fun a ha c hc=>by
    simp only[fy] at hc;subst hc;have:=hD.m a ha;omega⟩⟩,⟨by first|omega|(simp only;omega)|(simp;omega),by first|omega|(simp only;omega)|(simp;omega),by first|omega|(simp only;omega)|(simp;omega),by first|omega|(simp only;omega)|(simp;omega)⟩⟩
   rcases List.mem_append.1 hm' with w|w
   ·exact hB.f m' w
   ·simp only[fy] at w;subst w;omega
  simp only;rw[e14];generalize m.flags.map aF=rl at*;generalize b.ae.map ah=rm at*;generalize ax b.gone=rg at*;simp (maxSteps:=9^9) [a8,cp.m,cp.b,aa,setAt,h1,h2,h3,h4,h5,c3,e7,e8,e11,e12,e13];exact ab (by simp;omega)
 have d3:¬(x:Int)=3:=by omega
 by_cases c4:x=4
 ·have d4:(x:Int)=4:=by omega
  have e13:b.gone.length+1≤4294967296:=by omega
  have e14:ax (b.gone++[(y:Int)])=ax b.gone++[[I y]]:=nK b.gone y;refine⟨{b with gone:=b.gone++[(y:Int)]},i3,q3, ?_,hi3,ao (b:=cp.m) hm ⟨0, ?_⟩⟩
  ·exact⟨⟨⟨hB.m,by simp;omega,hB.n,hB.f⟩,hD.j2.eI⟩,⟨by first|omega|(simp only;omega)|(simp;omega),by first|omega|(simp only;omega)|(simp;omega),by first|omega|(simp only;omega)|(simp;omega),by first|omega|(simp only;omega)|(simp;omega)⟩⟩
  simp only;rw[e14];generalize b.ae.map ah=rm at*;generalize ax b.gone=rg at*;simp (maxSteps:=9^9) [a8,cp.m,cp.b,aa,setAt,h1,h2,h3,h4,c4,e7,e8,e11,e12,e13];exact ab (by simp;omega)
 have d4:¬(x:Int)=4:=by omega
 by_cases c5:x=5
 ·have d5:(x:Int)=5:=by omega
  obtain⟨t,w,i4,q4,hi4,h5⟩:=gd.al ks hR i3 q3 hi3;refine⟨{b with time:=t,eD:=w},i4,q4, ?_,hi4,ao (b:=cp.m) hm ⟨0, ?_⟩⟩
  ·exact⟨⟨⟨hB.m,hB.g,hB.n,hB.f⟩,hD.j2.eI⟩,⟨by first|omega|(simp only;omega)|(simp;omega),by first|omega|(simp only;omega)|(simp;omega),by first|omega|(simp only;omega)|(simp;omega),by first|omega|(simp only;omega)|(simp;omega)⟩⟩
  simp only;generalize b.ae.map ah=rm at*;generalize ax b.gone=rg at*;simp (maxSteps:=9^9) [a8,cp.m,cp.b,aa,setAt,h1,h2,h3,h4,h5,c5,e7,e8,e11,e12]
 have d5:¬(x:Int)=5:=by omega
 refine⟨b,i3,q3, ?_,hi3,ao (b:=cp.m) hm ⟨0, ?_⟩⟩
 ·exact⟨⟨hB,hD.j2.eI⟩,⟨by first|omega|(simp only;omega)|(simp;omega),by first|omega|(simp only;omega)|(simp;omega),by first|omega|(simp only;omega)|(simp;omega),by first|omega|(simp only;omega)|(simp;omega)⟩⟩
 generalize b.ae.map ah=rm at*;generalize ax b.gone=rg at*;simp (maxSteps:=9^9) [a8,cp.m,cp.b,aa,setAt,h1,h2,h3,h4,c0,d1,d2,d3,d4,d5,e7,e8,e11,e12]
end Mx
namespace Mx
open Go
theorem qS(need:Int→Bool):∀(l:List bp) (n:Int),(eN need n l).1.map (·.gid)=l.map (·.gid)
 |[],n=>rfl
 |m::l,n=>by
  simp only[eN];split
  ·simp[qS need l (n+1)]
  ·simp[qS need l n]
theorem nc(need:Int→Bool):∀(l:List bp) (n:Int),n≤(eN need n l).2∧(eN need n l).2≤n+l.length
 |[],n=>by simp[eN]
 |m::l,n=>by
  simp only[eN,bT];split
  ·have:=nc need l (n+1);simp only;omega
  ·have:=nc need l n;simp only;omega
theorem rU(need:Int→Bool):∀(l:List bp) (n:Int) (m:bp),m∈(eN need n l).1→
  ∃m0∈l,m0.gid=m.gid∧m.flags=m0.flags∧m.text=m0.text∧((need m.gid=true∧n≤m.uid∧m.uid<(eN need n l).2)∨(need m.gid=false∧m.uid=m0.uid))
 |[],n,m,h=>by simp[eN] at h
 |a::l,n,m,h=>by
  simp only[eN] at h ⊢;split at h
  ·rename_i c;rw[if_pos c];rcases List.mem_cons.1 h with rfl|h
   ·exact⟨a,bh ..,rfl,rfl,rfl,.inl ⟨c,by simp only;omega,by have:=(nc need l (n+1)).1;simp only;omega⟩⟩
   ·obtain⟨m0,h1,h2,h3,h4,h5⟩:=rU need l (n+1) m h;exact⟨m0,bq _ h1,h2,h3,h4,h5.imp (fun q=>⟨q.1,by omega,q.2.2⟩) id⟩
  ·rename_i c;rw[if_neg c];rcases List.mem_cons.1 h with rfl|h
   ·exact⟨m,bh ..,rfl,rfl,rfl,.inr ⟨by simpa using c,rfl⟩⟩
   ·obtain⟨m0,h1,h2,h3,h4,h5⟩:=rU need l n m h;exact⟨m0,bq _ h1,h2,h3,h4,h5⟩
def stay(a b:bz):List Int:=(aV (eI a.ae) (eI b.ae)).filter fun g=> !decide (g∈aV a.gone b.gone)
theorem Fi{a b:bz}{g:Int}:g∈stay a b↔(g∈eI a.ae∨g∈eI b.ae)∧¬(g∈a.gone∨g∈b.gone):=by
 simp[stay,fJ,iU]
theorem tL{a b:bz}(ha:(eI a.ae).Nodup)(hb:(eI b.ae).Nodup):
  (jh a b).1.Perm (eN (jg a b) (Max.max a.next b.next) ((stay a b).map (nk a.ae b.ae))).1:=by
 rw[←pW ha hb];simp only[oP];rw[Fk ha hb];exact oA _
theorem zH{a b:bz}(ha:(eI a.ae).Nodup)(hb:(eI b.ae).Nodup):(eI (jh a b).1).Perm (stay a b):=by
 have h:=(tL ha hb).map (fun m:bp=>m.gid);rw[qS] at h;refine h.trans (List.Perm.of_eq ?_);rw[List.map_map];have:∀l:List Int,(∀g∈l,g∈eI a.ae∨g∈eI b.ae)→l.map ((fun m:bp=>m.gid)∘nk a.ae b.ae)=l:=by
  intro l hl
  induction l with
  |nil=>rfl
  |cons g l ih=>
   rw[bB,ih fun g hg=>hl g (bq _ hg)];simp only[Function.comp];rw[pX (hl g (bh ..))]
 exact this _ fun g hg=>(Fi.1 hg).1
theorem Good.nd{b:bz}(h:Good b):(Mx.eI b.ae).Nodup:=List.pairwise_map.2 h.eI
theorem ox{l:List bp}{g:Int}:gh l g=none↔jL l g=none:=by rw[qy,oB]
theorem mE{l:List bp}{g:Int}{k:Nat}(h:gh l g=some k):∃hk:k<l.length,jL l g=some l[k]:=by
 obtain⟨h1,h2,h3⟩:=mS h;refine⟨h1, ?_⟩;unfold jL;rw[List.find?_eq_some_iff_getElem];exact⟨by simp[h2],k,h1,rfl,fun j hj=>by simpa using h3 j hj⟩
theorem AN{a b:bz}(ha:(eI a.ae).Nodup)(hb:(eI b.ae).Nodup):a.next≤(jh a b).2∧b.next≤(jh a b).2:=by
 rw[←pW ha hb];simp only[oP];have:=(nc (jg a b) (fv (·.gid) ((allM a.ae b.ae).filter fun m=> !decide (m.gid∈aV a.gone b.gone))) (Max.max a.next b.next)).1;omega
end Mx
namespace Mx
open Go
variable {M:Nat→Option Body}
theorem gZ.al(h:gZ.k M)(m:bp)(G:List Int)(hG:G.length≤4194304):run M 454 [.a (ah m),.c (.vp [ints G] 0)] []=some (.c (.bool (decide (m.gid∈G))),[]):=by
 have h1:=aL.al h.2 G m.gid (by omega);refine ao (b:=gZ.m) h.1 ⟨0, ?_⟩;simp only[ints] at h1 ⊢;generalize ax G=g at*;simp (maxSteps:=9^9) [a8,gZ.m,gZ.b,aa,h1,ah]
def firstM(a b:List bp):List bp:=a.map fun m=>match jL b m.gid with|some y=>iF m y|none=>m
theorem qF(a b:List bp):(firstM a b).length=a.length:=by simp[firstM]
def AP(u2 u3:Nat)(a b:bz)(v:Nat)(rows:List (List T)):List (Nat×Ob):=[(2,⟨u2,7,true,true,[af a]⟩),(3,⟨u3,7,true,true,[af b]⟩),(16,⟨v,4,true,false,rows⟩)]
structure JG where
 i:Nat
 v:Nat
 n:Nat
def Ir(u2 u3:Nat)(a b:bz)(s:JG):St:={t:=[(2,.c (.ptr 2 u2 0 0)),(3,.c (.ptr 3 u3 0 0)),(6,.c (.row 16 s.v 0 s.i)),(18,.c (ae a.ae)),(19,.c (I a.ae.length)),(20,.c (I s.i))],o:=AP u2 u3 a b s.v (((firstM a.ae b.ae).take s.i).map ah),n:=s.n}
def L2(u2 u3:Nat)(a b:bz)(s:JG):St:={t:=[(2,.c (.ptr 2 u2 0 0)),(3,.c (.ptr 3 u3 0 0)),(6,.c (.row 16 s.v 0 s.i)),(18,.c (ae a.ae)),(19,.c (I a.ae.length)),(20,.c (I s.i)),(21,.c (.bool false))],o:=AP u2 u3 a b s.v (((firstM a.ae b.ae).take s.i).map ah),n:=s.n}
structure KU (M:Nat→Option Body):Prop where
 holds:jf.k M
 keeps:dQ.k M
 gone:fI.k M
 at_:cJ.k M
 copy:eQ.k M
 join:fH.k M
 del:aD.k M
 c1:gZ.k M
 sort:aZ.k M
 c2:gY.k M
 c3:gX.k M
theorem Ip(K:KU M)(k u2 u3:Nat)(a b:bz)(ha:iw a)(hb:iw b)(s:JG)(hs:s.i<a.ae.length):
  ∃v' n',cy (run M) k b6.l0 (Ir u2 u3 a b s)=some (.normal,Ir u2 u3 a b ⟨s.i+1,v',n'⟩):=by
 obtain⟨i,v,n⟩:=s;simp only at hs;have hm:=ha.m;have h1:=cJ.al K.at_ b a.ae[i].gid hb.m;have e5:=cz (i:=i) (by omega);have e6:i+1≤4294967296:=by omega
 have hl:=qF a.ae b.ae;have e7:(((firstM a.ae b.ae).take i).map ah).length=i:=by simp[hl];omega
 have e9:(a.ae.map ah).length=a.ae.length:=by simp
 have e8:((firstM a.ae b.ae).take (i+1)).map ah=((firstM a.ae b.ae).take i).map ah++[ah (firstM a.ae b.ae)[i]]:=by
  rw[il _ _ (by rw[hl];exact hs),cU];rfl
 have a1:∀hh,(a.ae.map ah)[i]'hh=ah a.ae[i]:=by intro hh;simp
 cases hq:gh b.ae a.ae[i].gid with
 |none=>
  rw[hq] at h1;have h2:=eQ.al K.copy a.ae[i] (ha.f _ (ar hs));have ef:(firstM a.ae b.ae)[i]'(by rw[hl];exact hs)=a.ae[i]:=by
   simp only[firstM,fb,ox.1 hq]
  rw[ef] at e8;simp only[Ir,AP,e8];simp only[af,ae,ints,dN,ah,iW,jE] at h1 h2 a1 ⊢;generalize List.map ah ((firstM a.ae b.ae).take i)=rr at*;generalize a.ae.map ah=ra at*;generalize b.ae.map ah=rb at*;generalize ax a.gone=ga at*;generalize ax b.gone=gb at*;generalize a.ae[i].flags.map aF=rf at*;simp (maxSteps:=9^9) [b6.l0,aa,setAt,h1,h2,hs,e5,e6,e7,e9,a1,ab]
 |some q=>
  rw[hq] at h1;obtain⟨hq1,hq2⟩:=mE hq;have hf1:=ha.f _ (ar hs);have h3:=fH.al K.join a.ae[i] b.ae[q] hf1 (hb.f _ (ar hq1));have h2:=eQ.al K.copy (iF a.ae[i] b.ae[q]) (Nat.le_trans (rC _ _) hf1);have ef:(firstM a.ae b.ae)[i]'(by rw[hl];exact hs)=iF a.ae[i] b.ae[q]:=by
   simp only[firstM,fb,hq2]
  rw[ef] at e8;have e10:(b.ae.map ah).length=b.ae.length:=by simp
  have a2:∀hh,(b.ae.map ah)[q]'hh=ah b.ae[q]:=by intro hh;simp
  simp only[Ir,AP,e8];simp only[af,ae,ints,dN,ah,iW,jE] at h1 h2 h3 a1 a2 ⊢;generalize List.map ah ((firstM a.ae b.ae).take i)=rr at*;generalize a.ae.map ah=ra at*;generalize b.ae.map ah=rb at*;generalize ax a.gone=ga at*;generalize ax b.gone=gb at*;generalize a.ae[i].flags.map aF=rf at*;generalize b.ae[q].flags.map aF=rg at*;generalize (iF a.ae[i] b.ae[q]).flags.map aF=rj at*;simp (maxSteps:=9^9) [b6.l0,aa,setAt,h1,h2,h3,hs,hq1,e5,e6,e7,e9,e10,a1,a2,ab]
theorem Ks(k u2 u3:Nat)(a b:bz)(s:JG)(hs:¬s.i<a.ae.length):
  ∃n',cy (run M) k b6.l0 (Ir u2 u3 a b s)=some (.exit 0,L2 u2 u3 a b ⟨s.i,s.v,n'⟩):=by
 obtain⟨i,v,n⟩:=s;simp only at hs;simp only[Ir,L2,AP];generalize List.map ah ((firstM a.ae b.ae).take i)=rr at*;simp only[af,ae,ints];generalize a.ae.map ah=ra at*;generalize b.ae.map ah=rb at*;simp (maxSteps:=9^9) [b6.l0,aa,hs]
theorem zR(a:bz)(g:Int):holds a g= !(jL a.ae g).isNone:=by
 unfold holds;cases q:gh a.ae g with
 |none=>rw[ox.1 q];rfl
 |some k=>
  obtain⟨_,h⟩:=mE q;rw[h];exact decide_eq_true (Int.natCast_nonneg k)
def pC(a b:List bp)(i:Nat):List bp:=firstM a b++(b.take i).filter fun m=>(jL a m.gid).isNone
theorem E7(a b:List bp):pC a b b.length=allM a b:=by
 unfold pC allM firstM;rw[List.take_length]
 all_goals (congr 1)
theorem DQ(a b:List bp):pC a b 0=firstM a b:=by simp[pC]
theorem E6(a b:List bp)(i:Nat)(hi:i≤b.length):(pC a b i).length≤a.length+i:=by
 have:=bV (fun m:bp=>(jL a m.gid).isNone) (b.take i);simp only[pC,aC,qF];simp at this;omega
def Io(u2 u3:Nat)(a b:bz)(s:JG):St:={t:=[(2,.c (.ptr 2 u2 0 0)),(3,.c (.ptr 3 u3 0 0)),(6,.c (.row 16 s.v 0 (pC a.ae b.ae s.i).length)),(44,.c (ae b.ae)),(45,.c (I b.ae.length)),(46,.c (I s.i))],o:=AP u2 u3 a b s.v ((pC a.ae b.ae s.i).map ah),n:=s.n}
def L1(u2 u3:Nat)(a b:bz)(s:JG):St:={t:=[(2,.c (.ptr 2 u2 0 0)),(3,.c (.ptr 3 u3 0 0)),(6,.c (.row 16 s.v 0 (pC a.ae b.ae s.i).length)),(44,.c (ae b.ae)),(45,.c (I b.ae.length)),(46,.c (I s.i)),(47,.c (.bool false))],o:=AP u2 u3 a b s.v ((pC a.ae b.ae s.i).map ah),n:=s.n}
theorem Il(K:KU M)(k u2 u3:Nat)(a b:bz)(ha:iw a)(hb:iw b)(s:JG)(hs:s.i<b.ae.length):
  ∃v' n',cy (run M) k b6.l1 (Io u2 u3 a b s)=some (.normal,Io u2 u3 a b ⟨s.i+1,v',n'⟩):=by
 obtain⟨i,v,n⟩:=s;simp only at hs;have hma:=ha.m;have hm:=hb.m;have h1:=jf.al K.holds a b.ae[i].gid ha.m;have e5:=cz (i:=i) (by omega);have hl:=E6 a.ae b.ae i (by omega);have e7:((pC a.ae b.ae i).map ah).length=(pC a.ae b.ae i).length:=by simp
 have e6:(pC a.ae b.ae i).length+1≤4294967296:=by omega
 have e9:(b.ae.map ah).length=b.ae.length:=by simp
 have a1:∀hh,(b.ae.map ah)[i]'hh=ah b.ae[i]:=by intro hh;simp
 have eu:pC a.ae b.ae (i+1)=pC a.ae b.ae i++if holds a b.ae[i].gid=true then [] else [b.ae[i]]:=by
  simp only[pC,il _ _ hs,List.filter_append,ct,zR];cases q:(jL a.ae b.ae[i].gid).isNone<;>simp[q]
 cases hq:holds a b.ae[i].gid with
 |true=>
  rw[hq] at h1 eu;simp only[if_true,eM] at eu;simp only[Io,AP,eu];simp only[af,ae,ints,ah,jE] at h1 a1 ⊢;generalize List.map ah (pC a.ae b.ae i)=rr at*;generalize (pC a.ae b.ae i).length=nr at*;generalize a.ae.map ah=ra at*;generalize b.ae.map ah=rb at*;generalize ax a.gone=ga at*;generalize ax b.gone=gb at*;generalize b.ae[i].flags.map aF=rf at*;simp (maxSteps:=9^9) [b6.l1,setAt,h1,hs,e5,e9,a1,ab]
 |false=>
  rw[hq] at h1 eu;simp only[ay,if_false] at eu;have h2:=eQ.al K.copy b.ae[i] (hb.f _ (ar hs));simp only[Io,AP,eu,cU,bB,bJ,aC,bU];simp only[af,ae,ints,ah,iW,jE] at h1 h2 a1 ⊢;generalize List.map ah (pC a.ae b.ae i)=rr at*;generalize (pC a.ae b.ae i).length=nr at*;generalize a.ae.map ah=ra at*;generalize b.ae.map ah=rb at*;generalize ax a.gone=ga at*;generalize ax b.gone=gb at*;generalize b.ae[i].flags.map aF=rf at*;simp (maxSteps:=9^9) [b6.l1,setAt,h1,h2,hs,e5,e6,e7,e9,a1,ab]
theorem Kr(k u2 u3:Nat)(a b:bz)(s:JG)(hs:¬s.i<b.ae.length):
  ∃n',cy (run M) k b6.l1 (Io u2 u3 a b s)=some (.exit 2,L1 u2 u3 a b ⟨s.i,s.v,n'⟩):=by
 obtain⟨i,v,n⟩:=s;simp only at hs;simp only[Io,L1,AP];generalize List.map ah (pC a.ae b.ae i)=rr at*;simp only[af,ae,ints];generalize a.ae.map ah=ra at*;generalize b.ae.map ah=rb at*;simp (maxSteps:=9^9) [b6.l1,hs]
def nB(need:Int→Bool)(nx:Int)(l:List bp)(i:Nat):List bp:=(eN need nx (l.take i)).1++l.drop i
def qc(need:Int→Bool)(nx:Int)(l:List bp)(i:Nat):Int:=(eN need nx (l.take i)).2
theorem qR(need:Int→Bool)(m:bp):∀(l:List bp) (n:Int),eN need n (l++[m])=if need m.gid=true then((eN need n l).1++[{m with uid:=(eN need n l).2}],(eN need n l).2+1) else((eN need n l).1++[m],(eN need n l).2)
 |[],n=>by simp[eN]
 |a::l,n=>by
  simp only[List.cons_append,eN,qR need m l];by_cases c:need a.gid=true<;>by_cases c2:need m.gid=true<;>simp[c,c2]
theorem kq(need:Int→Bool):∀(l:List bp) (n:Int),(eN need n l).1.length=l.length
 |[],n=>rfl
 |a::l,n=>by
  simp only[eN];split<;>simp[kq need l]
theorem sr(need:Int→Bool)(nx:Int)(l:List bp)(i:Nat):(nB need nx l i).length=l.length:=by
 simp only[nB,aC,kq,jn,List.length_drop];omega
theorem Gt(need:Int→Bool)(nx:Int)(l:List bp)(i:Nat)(h:i<l.length):(nB need nx l i)[i]'(by rw[sr];exact h)=l[i]:=by
 have e:(eN need nx (l.take i)).1.length=i:=by rw[kq];simp;omega
 simp only[nB];rw[List.getElem_append_right (by omega)];simp[e]
theorem CG(need:Int→Bool)(nx:Int)(l:List bp)(i:Nat)(h:i<l.length):
  nB need nx l (i+1)=if need l[i].gid=true then(nB need nx l i).set i {l[i] with uid:=qc need nx l i} else nB need nx l i:=by
 have e:(eN need nx (l.take i)).1.length=i:=by rw[kq];simp;omega
 have hd:l.drop i=l[i]::l.drop (i+1):=bC h;simp only[nB,qc,il l i h,qR];by_cases c:need l[i].gid=true
 ·rw[if_pos c,if_pos c,List.set_append_right _ _ (by omega),e,Nat.sub_self];simp;rw[hd];rfl
 ·rw[if_neg c,if_neg c,hd];simp
theorem Ez(need:Int→Bool)(nx:Int)(l:List bp)(i:Nat)(h:i<l.length):qc need nx l (i+1)=if need l[i].gid=true then qc need nx l i+1 else qc need nx l i:=by
 simp only[qc,il l i h,qR];split<;>rfl
theorem CH(need:Int→Bool)(nx:Int)(l:List bp)(i:Nat):nx≤qc need nx l i∧qc need nx l i≤nx+l.length:=by
 have h:=nc need (l.take i) nx;simp only[qc];have:(l.take i).length≤l.length:=by simp;omega
 omega
structure MT where
 i:Nat
 v:Nat
 n:Nat
def Jy(u2 u3:Nat)(a b:bz)(need:Int→Bool)(nx:Int)(l:List bp)(Z:List (List T))(s:MT):St:={t:=[(2,.c (.ptr 2 u2 0 0)),(3,.c (.ptr 3 u3 0 0)),(6,.c (.row 16 s.v 0 l.length)),(13,.c (I (qc need nx l s.i))),(76,.c (.row 16 s.v 0 l.length)),(77,.c (I l.length)),(78,.c (I s.i))],o:=AP u2 u3 a b s.v ((nB need nx l s.i).map ah++Z),n:=s.n}
def L0(u2 u3:Nat)(a b:bz)(need:Int→Bool)(nx:Int)(l:List bp)(Z:List (List T))(s:MT):St:={t:=[(2,.c (.ptr 2 u2 0 0)),(3,.c (.ptr 3 u3 0 0)),(6,.c (.row 16 s.v 0 l.length)),(13,.c (I (qc need nx l s.i))),(76,.c (.row 16 s.v 0 l.length)),(77,.c (I l.length)),(78,.c (I s.i)),(79,.c (.bool false))],o:=AP u2 u3 a b s.v ((nB need nx l s.i).map ah++Z),n:=s.n}
theorem Ij(K:KU M)(k u2 u3:Nat)(a b:bz)(ha:iw a)(hb:iw b)(nx:Int)(hnx: -1000000000≤nx∧nx≤4611686018427387904)(l:List bp)(hl:l.length≤1048576)(Z:List (List T))(s:MT)(hs:s.i<l.length):
  ∃n',cy (run M) k b6.l2 (Jy u2 u3 a b (jg a b) nx l Z s)=some (.normal,Jy u2 u3 a b (jg a b) nx l Z ⟨s.i+1,s.v,n'⟩):=by
 obtain⟨i,v,n⟩:=s;simp only at hs;have h1:=jf.al K.holds a l[i].gid ha.m;have h2:=jf.al K.holds b l[i].gid hb.m;have h3:=dQ.al K.keeps a b l[i].gid ha.m hb.m;have h4:=dQ.al K.keeps b a l[i].gid hb.m ha.m;have e5:=cz (i:=i) (by omega);have hr:=CH (jg a b) nx l i;have e6:IntKind.i64.wrap (qc (jg a b) nx l i+1)=qc (jg a b) nx l i+1:=wrap_i64 (by omega) (by omega);have e7:i<((nB (jg a b) nx l i).map ah++Z).length:=by simp[sr];omega
 have a1:∀hh,((nB (jg a b) nx l i).map ah++Z)[i]'hh=ah l[i]:=by
  intro hh;rw[List.getElem_append_left (by simp[sr];omega)];simp only[fb,Gt _ _ _ _ hs]
 have t1:=CG (jg a b) nx l i hs;have t2:=Ez (jg a b) nx l i hs;have t3:((nB (jg a b) nx l (i+1)).map ah++Z)=if jg a b l[i].gid=true then((nB (jg a b) nx l i).map ah++Z).set i (ah {l[i] with uid:=qc (jg a b) nx l i}) else(nB (jg a b) nx l i).map ah++Z:=by
  rw[t1];split
  ·rw[fR,List.set_append_left _ _ (by simp[sr];omega)]
  ·rfl
 simp only[Jy,AP,t2,t3];have hn:jg a b l[i].gid=(holds a l[i].gid&& !jo a b l[i].gid||holds b l[i].gid&& !jo b a l[i].gid):=rfl;rw[hn];clear hn t1 t2 t3;generalize (nB (jg a b) nx l i).map ah++Z=rr at*;generalize qc (jg a b) nx l i=z at*;generalize holds a l[i].gid=p1 at*;generalize holds b l[i].gid=p2 at*;generalize jo a b l[i].gid=p3 at*;generalize jo b a l[i].gid=p4 at*;simp only[af,ae,ints,ah,jE] at h1 h2 h3 h4 a1 ⊢;generalize a.ae.map ah=ra at*;generalize b.ae.map ah=rb at*;generalize ax a.gone=ga at*;generalize ax b.gone=gb at*;generalize l[i]=m at*;generalize m.flags.map aF=rf at*;generalize l.length=N at*;cases p1<;>cases p2<;>cases p3<;>cases p4<;>simp (maxSteps:=9^9) [b6.l2,setAt,h1,h2,h3,h4,hs,e5,e6,e7,a1,ab]
theorem Kq(k u2 u3:Nat)(a b:bz)(need:Int→Bool)(nx:Int)(l:List bp)(Z:List (List T))(s:MT)(hs:¬s.i<l.length):
  ∃n',cy (run M) k b6.l2 (Jy u2 u3 a b need nx l Z s)=some (.exit 4,L0 u2 u3 a b need nx l Z ⟨s.i,s.v,n'⟩):=by
 obtain⟨i,v,n⟩:=s;simp only at hs;simp only[Jy,L0,AP];generalize (nB need nx l i).map ah++Z=rr at*;generalize qc need nx l i=z at*;simp only[af,ae,ints];generalize a.ae.map ah=ra at*;generalize b.ae.map ah=rb at*;simp (maxSteps:=9^9) [b6.l2,hs]
theorem CF(need:Int→Bool)(nx:Int)(l:List bp):nB need nx l 0=l:=by simp[nB,eN]
theorem Ey(need:Int→Bool)(nx:Int)(l:List bp):qc need nx l 0=nx:=by simp[qc,eN]
theorem Ex(need:Int→Bool)(nx:Int)(l:List bp):nB need nx l l.length=(eN need nx l).1:=by simp[nB]
theorem Gu(need:Int→Bool)(nx:Int)(l:List bp):qc need nx l l.length=(eN need nx l).2:=by simp[qc]
theorem Cg(a b:List bp):(firstM a b).take a.length=firstM a b:=ab (by rw[qF];exact Nat.le_refl _)
theorem Iq(K:KU M)(k u2 u3:Nat)(a b:bz)(ha:iw a)(hb:iw b)(v n:Nat)(hk:a.ae.length<k):
  ∃v' n',fi (cy (run M) k b6.l0) k (Ir u2 u3 a b ⟨0,v,n⟩)=some (.exit 0,L2 u2 u3 a b ⟨a.ae.length,v',n'⟩):=by
 obtain⟨r,hr,⟨⟨i,v',n'⟩,rfl,hi⟩⟩:=kC (f:=cy (run M) k b6.l0) (Ir u2 u3 a b) (fun s=>s.i≤a.ae.length) (fun s=>a.ae.length-s.i) (fun r=>∃s',r=(.exit 0,L2 u2 u3 a b s')∧s'.i=a.ae.length)
  (fun s hs=>by
   by_cases c:s.i<a.ae.length
   ·left;obtain⟨v',n',hh⟩:=Ip K k u2 u3 a b ha hb s c;exact⟨_,hh,by simp only;omega,by simp only;omega⟩
   ·right;obtain⟨n',hh⟩:=Ks (M:=M) k u2 u3 a b s c;exact⟨_,hh,by simp,_,rfl,by simp only;omega⟩) k ⟨0,v,n⟩ (by simp) (by simp only;omega)
 simp only at hi;subst hi;exact⟨v',n',hr⟩
theorem Im(K:KU M)(k u2 u3:Nat)(a b:bz)(ha:iw a)(hb:iw b)(v n:Nat)(hk:b.ae.length<k):
  ∃v' n',fi (cy (run M) k b6.l1) k (Io u2 u3 a b ⟨0,v,n⟩)=some (.exit 2,L1 u2 u3 a b ⟨b.ae.length,v',n'⟩):=by
 obtain⟨r,hr,⟨⟨i,v',n'⟩,rfl,hi⟩⟩:=kC (f:=cy (run M) k b6.l1) (Io u2 u3 a b) (fun s=>s.i≤b.ae.length) (fun s=>b.ae.length-s.i) (fun r=>∃s',r=(.exit 2,L1 u2 u3 a b s')∧s'.i=b.ae.length)
  (fun s hs=>by
   by_cases c:s.i<b.ae.length
   ·left;obtain⟨v',n',hh⟩:=Il K k u2 u3 a b ha hb s c;exact⟨_,hh,by simp only;omega,by simp only;omega⟩
   ·right;obtain⟨n',hh⟩:=Kr (M:=M) k u2 u3 a b s c;exact⟨_,hh,by simp,_,rfl,by simp only;omega⟩) k ⟨0,v,n⟩ (by simp) (by simp only;omega)
 simp only at hi;subst hi;exact⟨v',n',hr⟩
theorem Ik(K:KU M)(k u2 u3:Nat)(a b:bz)(ha:iw a)(hb:iw b)(nx:Int)(hnx: -1000000000≤nx∧nx≤4611686018427387904)(l:List bp)(hl:l.length≤1048576)(Z:List (List T))(v n:Nat)(hk:l.length<k):
  ∃n',fi (cy (run M) k b6.l2) k (Jy u2 u3 a b (jg a b) nx l Z ⟨0,v,n⟩)=some (.exit 4,L0 u2 u3 a b (jg a b) nx l Z ⟨l.length,v,n'⟩):=by
 obtain⟨r,hr,⟨⟨i,v',n'⟩,rfl,hi,hv⟩⟩:=kC (f:=cy (run M) k b6.l2) (Jy u2 u3 a b (jg a b) nx l Z) (fun s=>s.i≤l.length∧s.v=v) (fun s=>l.length-s.i) (fun r=>∃s',r=(.exit 4,L0 u2 u3 a b (jg a b) nx l Z s')∧s'.i=l.length∧s'.v=v)
  (fun s hs=>by
   by_cases c:s.i<l.length
   ·left;obtain⟨n',hh⟩:=Ij K k u2 u3 a b ha hb nx hnx l hl Z s c;exact⟨_,hh,⟨by simp only;omega,hs.2⟩,by simp only;omega⟩
   ·right;obtain⟨n',hh⟩:=Kq (M:=M) k u2 u3 a b (jg a b) nx l Z s c;have:=hs.1;exact⟨_,hh,by simp,_,rfl,by simp only;omega,hs.2⟩) k ⟨0,v,n⟩ ⟨by simp,rfl⟩ (by simp only;omega)
 simp only at hi hv;subst hi;subst hv;exact⟨n',hr⟩
theorem wb(l:List Int)(x:Int):(kY l x).length≤l.length+1:=by
 have h:∀l:List Int,(l.filter (fun y=>decide (y<x))).length+(l.filter (fun y=>decide (x<y))).length≤l.length:=by
  intro l
  induction l with
  |nil=>simp
  |cons a l ih=>
   simp only[iP];by_cases c1:a<x
   ·have c2:¬x<a:=by omega
    simp[c1,c2];omega
   ·by_cases c2:x<a
    ·simp[c1,c2];omega
    ·simp[c1,c2];omega
 have:=h l;simp only[kY,aC,bU];omega
theorem ke(a b:List Int):(aV a b).length≤a.length+b.length:=by
 have key:∀(l acc:List Int),(l.foldl j8 acc).length≤l.length+acc.length:=by
  intro l
  induction l with
  |nil=>intro acc;simp
  |cons x l ih=>
   intro acc;have h1:=ih (j8 acc x);have h2:(j8 acc x).length≤acc.length+1:=by
    unfold j8;split
    ·omega
    ·exact wb acc x
   simp only[ff,bT];omega
 have:=key (a++b) [];simp only[aC,eJ] at this;exact this
theorem zC(a b:Int):Max.max a b=if a<b then b else a:=by split<;>omega
theorem b6.al(h:b6.k M)(a b:bz)(ha:iw a)(hb:iw b)(hall:(allM a.ae b.ae).length≤20)(hna: -1000000000≤a.next∧a.next≤4611686018427387904)(hnb: -1000000000≤b.next∧b.next≤4611686018427387904):
  run M 437 [.a (af a),.a (af b)] []=some (.lL [.c (.sl true 4 ((oP a b).1.map ah)),.c (I (oP a b).2)],[]):=by
 obtain⟨h0,kh,kk,kg,ka,kc,kj,kd,k1,ks,k2,k3⟩:=h;have K:KU M:=⟨kh,kk,kg,ka,kc,kj,kd,k1,ks,k2,k3⟩;have hma:=ha.m;have hmb:=hb.m;refine ao (b:=b6.m) h0 ⟨a.ae.length+b.ae.length+21, ?_⟩;generalize hk:a.ae.length+b.ae.length+21=k;obtain⟨v1,n1,r1⟩:=Iq K k 2000000 2000016 a b ha hb 2000064 2000160 (by omega);obtain⟨v2,n2,r2⟩:=Im K k 2000000 2000016 a b ha hb v1 (n1+64) (by omega);have h4:=fI.al kg a.gone b.gone ha.g hb.g;have hG:(aV a.gone b.gone).length≤4194304:=by
  have:=ke a.gone b.gone;have:=ha.g;have:=hb.g;omega
 have hc1:=fun m=>gZ.al k1 m (aV a.gone b.gone) hG
 have h5:=aD.al kd hc1 (allM a.ae b.ae) (by omega);have hkl:((allM a.ae b.ae).filter fun m=> !decide (m.gid∈aV a.gone b.gone)).length≤(allM a.ae b.ae).length:=bV _ _;have h6:=aZ.al ks (k:=fun m:bp=>m.gid) (gY.al k2) ((allM a.ae b.ae).filter fun m=> !decide (m.gid∈aV a.gone b.gone)) (List.replicate ((allM a.ae b.ae).length-((allM a.ae b.ae).filter fun m=> !decide (m.gid∈aV a.gone b.gone)).length) sK) (by omega);have hj:oP a b=(fv (·.uid) (eN (jg a b) (Max.max a.next b.next) (fv (·.gid) ((allM a.ae b.ae).filter fun m=> !decide (m.gid∈aV a.gone b.gone)))).1,(eN (jg a b) (Max.max a.next b.next) (fv (·.gid) ((allM a.ae b.ae).filter fun m=> !decide (m.gid∈aV a.gone b.gone)))).2):=rfl;rw[hj];have el0:((allM a.ae b.ae).map ah).length=(allM a.ae b.ae).length:=by simp
 have eF:firstM a.ae b.ae=firstM a.ae b.ae:=rfl;have hfl:=qF a.ae b.ae;simp only[Ir,L2,AP,List.take_zero,bJ,Cg] at r1;simp only[Io,L1,AP,DQ,E7,hfl] at r2;simp only[rB,eM] at h5 h6;generalize hz:List.replicate ((allM a.ae b.ae).length-((allM a.ae b.ae).filter fun m=> !decide (m.gid∈aV a.gone b.gone)).length) sK=Z at*;generalize hl1:((allM a.ae b.ae).filter fun m=> !decide (m.gid∈aV a.gone b.gone))=l1 at*;have hl2:(fv (fun m:bp=>m.gid) l1).length=l1.length:=iR _;generalize hs2:fv (fun m:bp=>m.gid) l1=l2 at*;obtain⟨n3,r3⟩:=Ik K k 2000000 2000016 a b ha hb (Max.max a.next b.next) (by omega) l2 (by omega) Z v2 (n2+112+64+32+96+48) (by omega);have h7:=aZ.al ks (k:=fun m:bp=>m.uid) (gX.al k3) (eN (jg a b) (Max.max a.next b.next) l2).1 Z (by rw[kq];omega);rw[kq] at h7;simp only[Jy,L0,AP,CF,Ey,Ex,Gu] at r3;simp only[rB] at h7;have el1:l1.length≤(l1.map ah++Z).length:=by simp
 have el2:l2.length≤(l2.map ah++Z).length:=by simp
 have el3:l2.length≤((eN (jg a b) (Max.max a.next b.next) l2).1.map ah++Z).length:=by simp[kq]
 have el4:l2.length≤((fv (fun m:bp=>m.uid) (eN (jg a b) (Max.max a.next b.next) l2).1).map ah++Z).length:=by simp[iR,kq]
 have el5:(((fv (fun m:bp=>m.uid) (eN (jg a b) (Max.max a.next b.next) l2).1).map ah++Z).take l2.length)=(fv (fun m:bp=>m.uid) (eN (jg a b) (Max.max a.next b.next) l2).1).map ah:=by
  rw[List.take_append_of_le_length (by simp[iR,kq])];exact ab (by simp[iR,kq])
 have em:=zC a.next b.next;have ea:(a.ae.map ah).length=a.ae.length:=by simp
 have eb:(b.ae.map ah).length=b.ae.length:=by simp
 have ez:((0:Nat):Int)=0:=rfl;simp only[ez] at r1 r2 r3;generalize (eN (jg a b) (Max.max a.next b.next) l2).2=nz at*;simp only;generalize (fv (fun m:bp=>m.uid) (eN (jg a b) (Max.max a.next b.next) l2).1).map ah=R4 at*;generalize R4++Z=R4Z at*;generalize (eN (jg a b) (Max.max a.next b.next) l2).1.map ah++Z=R3Z at*;generalize hmx:Max.max a.next b.next=mx at*;generalize l2.map ah++Z=R2Z at*;generalize l1.map ah++Z=R1Z at*;rw[hl2] at*;clear hl1 hs2 hz hj hc1 K;generalize (allM a.ae b.ae).map ah=R0 at*;generalize (allM a.ae b.ae).length=N0 at*;generalize (firstM a.ae b.ae).map ah=RF at*;generalize l1.length=N1 at*;simp only[af,ae,ints] at*;generalize a.ae.map ah=ra at*;generalize b.ae.map ah=rb at*;generalize ax (aV a.gone b.gone)=gj at*;generalize ax a.gone=ga at*;generalize ax b.gone=gb at*;by_cases c:a.next<b.next
 ·rw[if_pos c] at em;subst em;simp (maxSteps:=9^9) [a8,b6.m,b6.b,aa,setAt,r1,r2,r3,h4,h5,h6,h7,c,ea,eb,el0,el1,el3,el4,el5]
 ·rw[if_neg c] at em;subst em;simp (maxSteps:=9^9) [a8,b6.m,b6.b,aa,setAt,r1,r2,r3,h4,h5,h6,h7,c,ea,eb,el0,el1,el3,el4,el5]
structure xV (a b:bz):Prop where
 ia:iw a
 ib:iw b
 ga:a.gone.length≤500000
 gb:b.gone.length≤500000
 na:(eI a.ae).Nodup
 nb:(eI b.ae).Nodup
 all:(allM a.ae b.ae).length≤20
 xa: -1000000000≤a.next∧a.next≤1000000000
 xb: -1000000000≤b.next∧b.next≤1000000000
theorem tK{a b:bz}(h:xV a b):(jh a b).1.length≤20:=by
 rw[←pW h.na h.nb];simp only[oP,iR,kq];exact Nat.le_trans (bV _ _) h.all
theorem gV.al(h:gV.k M)(a b:bz)(H:xV a b):run M 401 [.a (af a),.a (af b)] []=some (.a (bM (ig a b)),[]):=by
 obtain⟨h0,kg,kc,kl,kj⟩:=h;have h1:=cA.al kc a H.ia;have h2:=fI.al kg a.gone b.gone H.ia.g H.ib.g;have h3:=gm.al kl b.time b.eD a.time a.eD;have h4:=gm.al kl a.time a.eD b.time b.eD;have h5:=b6.al kj a b H.ia H.ib H.all (by have:=H.xa;omega) (by have:=H.xb;omega);rw[pW H.na H.nb] at h5;have e1:(aV a.gone b.gone).length≤4194304:=by
  have:=ke a.gone b.gone;have:=H.ia.g;have:=H.ib.g;omega
 have e2:=aI (aV a.gone b.gone);have e3:((jh a b).1.map ah).length=(jh a b).1.length:=by simp
 have e4:(a.ae.map ah).length=a.ae.length:=by simp
 have e5:=aI a.gone;have e6:=uM a.name b.name;refine ao (b:=gV.m) h0 ⟨0, ?_⟩;unfold ig;by_cases c:a.gid=b.gid
 ·rw[if_pos c];generalize ld b.time b.eD a.time a.eD=x at*;generalize ld a.time a.eD b.time b.eD=y at*;generalize hw:jD a.name b.name=w at*;clear hw;simp only[af,bM,ae,ints] at*;generalize (jh a b).1.map ah=rj at*;generalize (jh a b).1.length=nj at*;generalize (jh a b).2=xj at*;generalize ax (aV a.gone b.gone)=gj at*;generalize a.ae.map ah=ra at*;generalize b.ae.map ah=rb at*;generalize ax a.gone=ga at*;generalize ax b.gone=gb at*;rw[c] at h5;cases x<;>cases y<;>cases w<;>simp (maxSteps:=9^9) [a8,gV.m,gV.b,aa,setAt,h2,h3,h4,h5,c,e2,e3,e6,ab]
 ·rw[if_neg c];simp only[af,bM,ae,ints] at*;generalize a.ae.map ah=ra at*;generalize b.ae.map ah=rb at*;generalize ax a.gone=ga at*;generalize ax b.gone=gb at*;simp (maxSteps:=9^9) [a8,gV.m,gV.b,aa,setAt,h1,c,e4,e5,ab]
theorem zG{a b:bz}(H:xV a b):∀m∈(jh a b).1,m.flags.length≤1048576:=by
 intro m hm;obtain⟨m0,h1,h2,h3,_,_⟩:=rU _ _ _ m ((tL H.na H.nb).mem_iff.1 hm);obtain⟨g,hg,rfl⟩:=List.mem_map.1 h1;rw[h3];unfold nk;cases q1:jL a.ae g with
 |some x=>
  have hx:=H.ia.f x (mT q1).1;cases q2:jL b.ae g with
  |some y=>exact Nat.le_trans (rC _ _) hx
  |none=>exact hx
 |none=>
  cases q2:jL b.ae g with
  |some y=>exact H.ib.f y (mT q2).1
  |none=>simp
theorem sZ{a b:bz}(H:xV a b):iw (ig a b):=by
 unfold ig;split
 ·refine⟨by have:=tK H;simp only;omega, ?_, ?_,zG H⟩
  ·have:=ke a.gone b.gone;have:=H.ga;have:=H.gb;simp only;omega
  ·simp only;split
   ·exact H.ib.n
   ·exact H.ia.n
 ·exact H.ia
theorem DB(a b:List bp):(allM a b).length≤a.length+b.length:=by
 have:=bV (fun m:bp=>(jL a m.gid).isNone) b;simp only[allM,aC,gD];omega
theorem Good.AM{a b:bz}(ha:Good a)(hb:Good b):xV a b:=
 ⟨ha.tM,hb.tM,by have:=ha.nL;omega,by have:=hb.nL;omega,ha.nd,hb.nd,by have:=DB a.ae b.ae;have:=ha.len;have:=hb.len;omega,by have:=ha.next;omega,by have:=hb.next;omega⟩
theorem hZ.al(h:hZ.k M)(a b:bz):run M 459 [.a (af a),.a (af b)] []=some (.c (I (Max.max a.next b.next)),[]):=by
 refine ao (b:=hZ.m) h ⟨0, ?_⟩;have e:Max.max a.next b.next=if b.next<a.next then a.next else b.next:=by split<;>omega
 rw[e];simp only[af,ae,ints];by_cases c:b.next<a.next
 ·simp (maxSteps:=9^9) [a8,hZ.m,hZ.b,aa,c]
 ·simp (maxSteps:=9^9) [a8,hZ.m,hZ.b,aa,c]
theorem qw(p:bp→Bool):∀(l s:List bp),l.foldl (fun s a=>if p a=true then s++[a] else s) s=s++l.filter p
 |[],s=>by simp
 |a::l,s=>by
  rw[ff,qw p l,iP];by_cases h:p a=true<;>simp[h]
def LQ(l:List bp)(m:bp)(i:Nat)(s:List bp)(x:Nat×Nat):St:={t:=[(0,.c (ae l)),(3,.c (.ptr 3 2000000 0 0)),(5,.c (.row 8 x.1 0 s.length)),(6,.c (I i))],o:=[(3,⟨2000000,4,true,true,[ah m]⟩),(8,⟨x.1,4,true,false,s.map ah⟩)],n:=x.2}
def Nj(l:List bp)(m:bp)(s:List bp)(x:Nat×Nat):St:={t:=[(0,.c (ae l)),(3,.c (.ptr 3 2000000 0 0)),(5,.c (.row 8 x.1 0 s.length)),(6,.c (I l.length)),(12,.c (.bool false))],o:=[(3,⟨2000000,4,true,true,[ah m]⟩),(8,⟨x.1,4,true,false,s.map ah⟩)],n:=x.2}
def LP(l:List bp)(m:bp)(i:Nat)(s:List bp)(x:Nat×Nat):St:={t:=[(0,.c (ae l)),(3,.c (.ptr 3 2000000 0 0)),(5,.c (.row 8 x.1 0 s.length)),(7,.c (I i))],o:=[(3,⟨2000000,4,true,true,[ah m]⟩),(8,⟨x.1,4,true,false,s.map ah⟩)],n:=x.2}
def Ni(l:List bp)(m:bp)(s:List bp)(x:Nat×Nat):St:={t:=[(0,.c (ae l)),(3,.c (.ptr 3 2000000 0 0)),(5,.c (.row 8 x.1 0 s.length)),(7,.c (I l.length)),(37,.c (.bool false))],o:=[(3,⟨2000000,4,true,true,[ah m]⟩),(8,⟨x.1,4,true,false,s.map ah⟩)],n:=x.2}
theorem cV.al(h:cV.k M)(l:List bp)(m:bp)(hl:l.length≤16777216):run M 462 [.c (ae l),.a (ah m)] []=some (.c (.sl true 4 ((iG (·.uid) l m).map ah)),[]):=by
 refine ao (b:=cV.m) h ⟨l.length+1, ?_⟩;have hrow:(l.map ah).length=l.length:=by simp
 have hat:∀i (hi:i<l.length) hh,(l.map ah)[i]'hh=ah l[i]:=by intro i hi hh;simp
 obtain⟨g,hr⟩:=jz (f:=cy (run M) (l.length+1) cV.l0) l (fun s a=>if decide (a.uid≤m.uid)=true then s++[a] else s) (fun i s=>s.length≤i) (LQ l m) 0 (Nj l m)
  (fun i h s hs=>by split<;>(try simp)<;>omega)
  (fun i hi s x hs=>by
   obtain⟨v,n⟩:=x;have e5:=cz (i:=i) (by omega);have e6:s.length+1≤4294967296:=by omega
   have e9:(s.map ah).length=s.length:=by simp
   have a1:=hat i hi;simp only[aH];by_cases c:l[i].uid≤m.uid
   ·simp only[c,decide_true,if_true,LQ,cU,bB,bJ,aC,bU];simp only[ae,ah,jE] at a1 ⊢;generalize s.map ah=rr at*;generalize l.map ah=rl at*;generalize l[i].flags.map aF=rf at*;simp (maxSteps:=9^9) [cV.l0,aa,hi,hrow,a1,c,e5,e6,e9,ab]
   ·simp only[c,decide_false,ay,if_false,LQ];simp only[ae,ah,jE] at a1 ⊢;generalize s.map ah=rr at*;generalize l.map ah=rl at*;generalize l[i].flags.map aF=rf at*;simp (maxSteps:=9^9) [cV.l0,aa,hi,hrow,a1,c,e5])
  (fun s x hs=>by
   obtain⟨v,n⟩:=x;simp only[aH,LQ,Nj,ae];generalize l.map ah=rl at*;simp (maxSteps:=9^9) [cV.l0,aa,hrow]) [] (by simp)
 obtain⟨g',hr'⟩:=jz (f:=cy (run M) (l.length+1) cV.l1) l (fun s a=>if decide (m.uid<a.uid)=true then s++[a] else s) (fun i s=>s.length≤l.length+1+i) (LP l m) 2 (Ni l m)
  (fun i h s hs=>by split<;>(try simp)<;>omega)
  (fun i hi s x hs=>by
   obtain⟨v,n⟩:=x;have e5:=cz (i:=i) (by omega);have e6:s.length+1≤4294967296:=by omega
   have e9:(s.map ah).length=s.length:=by simp
   have a1:=hat i hi;simp only[aH];by_cases c:m.uid<l[i].uid
   ·simp only[c,decide_true,if_true,LP,cU,bB,bJ,aC,bU];simp only[ae,ah,jE] at a1 ⊢;generalize s.map ah=rr at*;generalize l.map ah=rl at*;generalize l[i].flags.map aF=rf at*;simp (maxSteps:=9^9) [cV.l1,aa,hi,hrow,a1,c,e5,e6,e9,ab]
   ·simp only[c,decide_false,ay,if_false,LP];simp only[ae,ah,jE] at a1 ⊢;generalize s.map ah=rr at*;generalize l.map ah=rl at*;generalize l[i].flags.map aF=rf at*;simp (maxSteps:=9^9) [cV.l1,aa,hi,hrow,a1,c,e5])
  (fun s x hs=>by
   obtain⟨v,n⟩:=x;simp only[aH,LP,Ni,ae];generalize l.map ah=rl at*;simp (maxSteps:=9^9) [cV.l1,aa,hrow]) (l.filter (fun y=>decide (y.uid≤m.uid))++[m]) (by have:=bV (fun y:bp=>decide (y.uid≤m.uid)) l;simp;omega)
 rw[qw] at hr hr';have hr0:=hr (2000032,2000080);generalize g (2000032,2000080)=y at*;obtain⟨v1,n1⟩:=y;have hr1:=hr' (n1+48,n1+96);generalize g' (n1+48,n1+96)=y at*;obtain⟨v2,n2⟩:=y;have e1:(l.filter (fun y=>decide (y.uid≤m.uid))).length≤16777216:=Nat.le_trans (bV _ _) hl;have e2:(l.filter (fun y=>decide (m.uid<y.uid))).length≤16777216:=Nat.le_trans (bV _ _) hl;simp only[LQ,Nj,LP,Ni,List.nil_append,cU,bB,bJ,aC,bU,eJ] at hr0 hr1;have e3:((l.filter (fun y=>decide (y.uid≤m.uid))).map ah).length=(l.filter (fun y=>decide (y.uid≤m.uid))).length:=by simp
 have e4:((l.filter (fun y=>decide (m.uid<y.uid))).map ah).length=(l.filter (fun y=>decide (m.uid<y.uid))).length:=by simp
 have ez:((0:Nat):Int)=0:=rfl;simp only[ez] at hr0 hr1;simp only[iG,cU,bB,bJ];simp only[ae,ah,jE] at*;generalize (l.filter (fun y=>decide (y.uid≤m.uid))).map ah=r1 at*;generalize (l.filter (fun y=>decide (m.uid<y.uid))).map ah=r2 at*;generalize (l.filter (fun y=>decide (y.uid≤m.uid))).length=k1 at*;generalize (l.filter (fun y=>decide (m.uid<y.uid))).length=k2 at*;generalize l.map ah=rl at*;generalize m.flags.map aF=rf at*;have e5:k1+1≤4294967296:=by omega
 have e6:(r1++([I m.gid,I m.uid,T.sl false 3 rf,S m.text]::r2)).take (k1+1+k2)=r1++([I m.gid,I m.uid,T.sl false 3 rf,S m.text]::r2):=ab (by simp;omega);have e7:k1+1+k2≤k1+(k2+1):=by omega
 simp (maxSteps:=9^9) [a8,cV.m,cV.b,aa,e7,hr0,hr1,e3,e4,e5,e6,ab]
def Mb(u2 u3:Nat)(a b:bz)(i:Nat)(s:List Int)(x:Nat×Nat):St:={t:=[(2,.c (.ptr 2 u2 0 0)),(3,.c (.ptr 3 u3 0 0)),(5,.c (.row 8 x.1 0 s.length)),(6,.c (I i))],o:=[(2,⟨u2,7,true,true,[af a]⟩),(3,⟨u3,7,true,true,[af b]⟩),(8,⟨x.1,1,true,false,ax s⟩)],n:=x.2}
def Nu(u2 u3:Nat)(a b:bz)(s:List Int)(x:Nat×Nat):St:={t:=[(2,.c (.ptr 2 u2 0 0)),(3,.c (.ptr 3 u3 0 0)),(5,.c (.row 8 x.1 0 s.length)),(6,.c (I a.ae.length)),(13,.c (.bool false))],o:=[(2,⟨u2,7,true,true,[af a]⟩),(3,⟨u3,7,true,true,[af b]⟩),(8,⟨x.1,1,true,false,ax s⟩)],n:=x.2}
def Ma(u3:Nat)(b:bz)(i:Nat)(s:List Int)(x:Nat×Nat):St:={t:=[(3,.c (.ptr 3 u3 0 0)),(5,.c (.row 8 x.1 0 s.length)),(7,.c (I i))],o:=[(3,⟨u3,7,true,true,[af b]⟩),(8,⟨x.1,1,true,false,ax s⟩)],n:=x.2}
def Nt(u3:Nat)(b:bz)(s:List Int)(x:Nat×Nat):St:={t:=[(3,.c (.ptr 3 u3 0 0)),(5,.c (.row 8 x.1 0 s.length)),(7,.c (I b.ae.length)),(37,.c (.bool false))],o:=[(3,⟨u3,7,true,true,[af b]⟩),(8,⟨x.1,1,true,false,ax s⟩)],n:=x.2}
theorem sg(s:List Int)(x:Int):(j8 s x).length≤s.length+1:=by
 unfold j8;split
 ·omega
 ·exact wb s x
theorem yP(l:List bp)(s:List Int):l.foldl (fun s m=>j8 s m.gid) s=(eI l).foldl j8 s:=by
 simp only[eI,List.foldl_map]
theorem dn.al(h:dn.k M)(a b:bz)(ha:a.ae.length≤1048576)(hb:b.ae.length≤1048576):run M 460 [.a (af a),.a (af b)] []=some (.c (.sl true 1 (ax (aV (eI a.ae) (eI b.ae)))),[]):=by
 obtain⟨h0,kin,kput⟩:=h;refine ao (b:=dn.m) h0 ⟨a.ae.length+b.ae.length+1, ?_⟩;generalize hK:a.ae.length+b.ae.length+1=K;have hra:(a.ae.map ah).length=a.ae.length:=by simp
 have hrb:(b.ae.map ah).length=b.ae.length:=by simp
 obtain⟨g,hr⟩:=jz (f:=cy (run M) K dn.l0) a.ae (fun s m=>j8 s m.gid) (fun i s=>s.length≤i) (Mb 2000000 2000016 a b) 0 (Nu 2000000 2000016 a b)
  (fun i h s hs=>by have:=sg s a.ae[i].gid;omega)
  (fun i hi s x hs=>by
   obtain⟨v,n⟩:=x;have e5:=cz (i:=i) (by omega);have e9:=aI s;have h1:=bl.al kin s a.ae[i].gid (by omega);have h2:=b7.al kput s a.ae[i].gid (by omega);have a1:∀hh,(a.ae.map ah)[i]'hh=ah a.ae[i]:=by intro hh;simp
   have e10:=aI (kY s a.ae[i].gid);have hfl:=kT (kY s a.ae[i].gid);simp only[aH,j8];by_cases c:a.ae[i].gid∈s
   ·rw[decide_eq_true c] at h1;rw[if_pos c];simp only[Mb];simp only[af,ae,ints,ah,jE] at a1 h1 ⊢;generalize ax s=rs at*;generalize a.ae.map ah=ra at*;generalize b.ae.map ah=rb at*;simp (maxSteps:=9^9) [dn.l0,hra,hi,h1,a1,e5,e9,ab]
   ·rw[decide_eq_false c] at h1;rw[if_neg c];simp only[Mb];simp only[af,ae,ints,ah,jE] at a1 h1 h2 ⊢;generalize ax (kY s a.ae[i].gid)=rp at*;generalize ax s=rs at*;generalize a.ae.map ah=ra at*;generalize b.ae.map ah=rb at*;simp (maxSteps:=9^9) [dn.l0,hra,hi,h1,h2,a1,e5,e9,e10,hfl,ab])
  (fun s x hs=>by
   obtain⟨v,n⟩:=x;simp only[aH,Mb,Nu,af,ae,ints];generalize a.ae.map ah=ra at*;generalize b.ae.map ah=rb at*;simp (maxSteps:=9^9) [dn.l0,hra]) [] (by simp)
 obtain⟨g',hr'⟩:=jz (f:=cy (run M) K dn.l1) b.ae (fun s m=>j8 s m.gid) (fun i s=>s.length≤a.ae.length+i) (Ma 2000016 b) 2 (Nt 2000016 b)
  (fun i h s hs=>by have:=sg s b.ae[i].gid;omega)
  (fun i hi s x hs=>by
   obtain⟨v,n⟩:=x;have e5:=cz (i:=i) (by omega);have e9:=aI s;have h1:=bl.al kin s b.ae[i].gid (by omega);have h2:=b7.al kput s b.ae[i].gid (by omega);have a1:∀hh,(b.ae.map ah)[i]'hh=ah b.ae[i]:=by intro hh;simp
   have e10:=aI (kY s b.ae[i].gid);have hfl:=kT (kY s b.ae[i].gid);simp only[aH,j8];by_cases c:b.ae[i].gid∈s
   ·rw[decide_eq_true c] at h1;rw[if_pos c];simp only[Ma];simp only[af,ae,ints,ah,jE] at a1 h1 ⊢;generalize ax s=rs at*;generalize b.ae.map ah=rb at*;simp (maxSteps:=9^9) [dn.l1,hrb,hi,h1,a1,e5,e9,ab]
   ·rw[decide_eq_false c] at h1;rw[if_neg c];simp only[Ma];simp only[af,ae,ints,ah,jE] at a1 h1 h2 ⊢;generalize ax (kY s b.ae[i].gid)=rp at*;generalize ax s=rs at*;generalize b.ae.map ah=rb at*;simp (maxSteps:=9^9) [dn.l1,hrb,hi,h1,h2,a1,e5,e9,e10,hfl,ab])
  (fun s x hs=>by
   obtain⟨v,n⟩:=x;simp only[aH,Ma,Nt,af,ae,ints];generalize b.ae.map ah=rb at*;simp (maxSteps:=9^9) [dn.l1,hrb]) (a.ae.foldl (fun s m=>j8 s m.gid) []) (by
    have:=uE a.ae (fun s m=>j8 s m.gid) (fun i s=>s.length≤i) (fun i h s hs=>by have:=sg s a.ae[i].gid;omega) [] (by simp);omega)
 have hj:aV (eI a.ae) (eI b.ae)=b.ae.foldl (fun s m=>j8 s m.gid) (a.ae.foldl (fun s m=>j8 s m.gid) []):=by
  rw[yP,yP,aV,List.foldl_append]
 rw[hj];clear hj;have hr0:=gP (hr (2000048,2000096)) (show a.ae.length+1≤K by omega);generalize g (2000048,2000096)=y at*;obtain⟨v1,n1⟩:=y;have hr1:=gP (hr' (v1,n1+16)) (show b.ae.length+1≤K by omega);generalize g' (v1,n1+16)=y at*;obtain⟨v2,n2⟩:=y;generalize hs1:a.ae.foldl (fun s m=>j8 s m.gid) []=s1 at*;generalize hs2:b.ae.foldl (fun s m=>j8 s m.gid) s1=s2 at*;have ez:((0:Nat):Int)=0:=rfl;have e10:=aI s2;simp only[Mb,Nu,Ma,Nt,ez,eJ,mU] at hr0 hr1;simp only[af,ae,ints] at*;generalize ax s1=r1 at*;generalize ax s2=r2 at*;generalize a.ae.map ah=ra at*;generalize b.ae.map ah=rb at*;simp (maxSteps:=9^9) [a8,dn.m,dn.b,aa,hr0,hr1,e10,ab]
def Jv(u2 u3:Nat)(a b:bz)(v:Nat)(L:List bp):List (Nat×Ob):=[(2,⟨u2,7,true,true,[af a]⟩),(3,⟨u3,7,true,true,[af b]⟩),(17,⟨v,4,true,false,L.map ah⟩)]
def Bs(u2 u3:Nat)(a b:bz)(G:List Int)(i:Nat)(s:List bp×Int)(x:Nat×Nat):St:={t:=[(2,.c (.ptr 2 u2 0 0)),(3,.c (.ptr 3 u3 0 0)),(6,.c (I s.2)),(7,.c (.row 17 x.1 0 s.1.length)),(8,.c (ints G)),(9,.c (I i))],o:=Jv u2 u3 a b x.1 s.1,n:=x.2}
def Mr(u2 u3:Nat)(a b:bz)(G:List Int)(s:List bp×Int)(x:Nat×Nat):St:={t:=[(2,.c (.ptr 2 u2 0 0)),(3,.c (.ptr 3 u3 0 0)),(6,.c (I s.2)),(7,.c (.row 17 x.1 0 s.1.length)),(8,.c (ints G)),(9,.c (I G.length)),(24,.c (.bool false))],o:=Jv u2 u3 a b x.1 s.1,n:=x.2}
structure Mg (M:Nat→Option Body):Prop where
 keeps:dP.k M
 at_:bP.k M
 G9:bl.k M
 copy:fU.k M
 join:fG.k M
 put:cV.k M
theorem holds_of{a:bz}{g:Int}:holds a g=(gh a.ae g).isSome:=by
 unfold holds;cases gh a.ae g with
 |none=>rfl
 |some k=>exact decide_eq_true (Int.natCast_nonneg k)
theorem C0(K:Mg M)(k u2 u3:Nat)(a b:bz)(ha:iw a)(hb:iw b)(G:List Int)(hG:G.length≤4194304)(i:Nat)(hi:i<G.length)(s:List bp×Int)(x:Nat×Nat)(c:G[i]∈a.gone∨G[i]∈b.gone):
  ∃y,cy (run M) k cY.l0 (Bs u2 u3 a b G i s x)=some (.normal,Bs u2 u3 a b G (i+1) s y):=by
 obtain⟨v,n⟩:=x;obtain⟨L,nx⟩:=s;have h1:=bl.al K.G9 a.gone G[i] (by have:=ha.g;omega);have h2:=bl.al K.G9 b.gone G[i] (by have:=hb.g;omega);have e5:=cz (i:=i) (by omega);have eg:=aI G;have a0:∀hh,(ax G)[i]'hh=[I G[i]]:=by intro hh;simp[ax]
 have hcd:G[i]∈a.gone∨¬G[i]∈a.gone∧G[i]∈b.gone:=by
  by_cases q:G[i]∈a.gone
  ·exact .inl q
  ·exact .inr ⟨q,c.resolve_left q⟩
 simp only[aH,Bs,Jv];rcases hcd with q|⟨q1,q2⟩
 ·rw[decide_eq_true q] at h1;simp only[af,ae,ints] at*;generalize ax G=rg at*;generalize ax a.gone=ga at*;generalize ax b.gone=gb at*;generalize a.ae.map ah=ra at*;generalize b.ae.map ah=rb at*;generalize L.map ah=rl at*;simp (maxSteps:=9^9) [cY.l0,aa,hi,h1,e5,eg,a0]
 ·rw[decide_eq_false q1] at h1;rw[decide_eq_true q2] at h2;simp only[af,ae,ints] at*;generalize ax G=rg at*;generalize ax a.gone=ga at*;generalize ax b.gone=gb at*;generalize a.ae.map ah=ra at*;generalize b.ae.map ah=rb at*;generalize L.map ah=rl at*;simp (maxSteps:=9^9) [cY.l0,aa,hi,h1,h2,e5,eg,a0]
theorem JZ(k u2 u3:Nat)(a b:bz)(G:List Int)(s:List bp×Int)(x:Nat×Nat):
  ∃y,cy (run M) k cY.l0 (Bs u2 u3 a b G G.length s x)=some (.exit 0,Mr u2 u3 a b G s y):=by
 obtain⟨v,n⟩:=x;obtain⟨L,nx⟩:=s;have eg:=aI G;simp only[aH,Bs,Mr,Jv];simp only[af,ae,ints] at*;generalize ax G=rg at*;generalize ax a.gone=ga at*;generalize ax b.gone=gb at*;generalize a.ae.map ah=ra at*;generalize b.ae.map ah=rb at*;generalize L.map ah=rl at*;simp (maxSteps:=9^9) [cY.l0,aa,eg]
theorem HE(K:Mg M)(k u2 u3:Nat)(a b:bz)(ha:iw a)(hb:iw b)(G:List Int)(hG:G.length≤4194304)(i:Nat)(hi:i<G.length)(s:List bp×Int)(hs:s.1.length≤16777216)(hx: -1000000000≤s.2∧s.2≤1000000000000)(x:Nat×Nat)(c1:¬G[i]∈a.gone)(c2:¬G[i]∈b.gone)
  (p q:Nat) (hp:gh a.ae G[i]=some p) (hq:gh b.ae G[i]=some q):
  ∃y,cy (run M) k cY.l0 (Bs u2 u3 a b G i s x)=some (.normal,Bs u2 u3 a b G (i+1) (mr a b s G[i]) y):=by
 obtain⟨v,n⟩:=x;obtain⟨L,nx⟩:=s;simp only at hs hx;have h1:=bl.al K.G9 a.gone G[i] (by have:=ha.g;omega);have h2:=bl.al K.G9 b.gone G[i] (by have:=hb.g;omega);rw[decide_eq_false c1] at h1;rw[decide_eq_false c2] at h2;have h3:=bP.al K.at_ a G[i] ha.m;have h4:=bP.al K.at_ b G[i] hb.m;rw[hp] at h3;rw[hq] at h4;obtain⟨hp1,hp2⟩:=mE hp;obtain⟨hq1,hq2⟩:=mE hq;have h5:=fG.al K.join a.ae[p] b.ae[q] (ha.f _ (ar hp1)) (hb.f _ (ar hq1));have h6:=dP.al K.keeps a b G[i] ha.m hb.m;have h7:=dP.al K.keeps b a G[i] hb.m ha.m;have h8:=cV.al K.put L (iF a.ae[p] b.ae[q]) hs;have h9:=cV.al K.put L {iF a.ae[p] b.ae[q] with uid:=nx} hs
 have e5:=cz (i:=i) (by omega);have e6:IntKind.i64.wrap (nx+1)=nx+1:=wrap_i64 (by omega) (by omega);have eg:=aI G;have a0:∀hh,(ax G)[i]'hh=[I G[i]]:=by intro hh;simp[ax]
 have a1:∀hh,(a.ae.map ah)[p]'hh=ah a.ae[p]:=by intro hh;simp
 have a2:∀hh,(b.ae.map ah)[q]'hh=ah b.ae[q]:=by intro hh;simp
 have el:(L.map ah).length=L.length:=by simp
 have eA:(a.ae.map ah).length=a.ae.length:=by simp
 have eB:(b.ae.map ah).length=b.ae.length:=by simp
 have l8:((iG (fun m:bp=>m.uid) L (iF a.ae[p] b.ae[q])).map ah).length=(iG (fun m:bp=>m.uid) L (iF a.ae[p] b.ae[q])).length:=by simp
 have l9:((iG (fun m:bp=>m.uid) L {iF a.ae[p] b.ae[q] with uid:=nx}).map ah).length=(iG (fun m:bp=>m.uid) L {iF a.ae[p] b.ae[q] with uid:=nx}).length:=by simp
 have hst:mr a b (L,nx) G[i]=if(!jo a b G[i]|| !jo b a G[i])=true then(iG (fun m:bp=>m.uid) L {iF a.ae[p] b.ae[q] with uid:=nx},nx+1) else(iG (fun m:bp=>m.uid) L (iF a.ae[p] b.ae[q]),nx):=by
  have e1:jg a b G[i]=(!jo a b G[i]|| !jo b a G[i]):=by simp[jg,holds_of,hp,hq]
  have e2:nk a.ae b.ae G[i]=iF a.ae[p] b.ae[q]:=by simp[nk,hp2,hq2]
  simp only[mr];rw[if_neg (by simp[c1,c2]),e1,e2]
 rw[hst];clear hst hp hq hp2 hq2 c1 c2;simp only[aH,Bs,Jv];simp only[af,ae,ints,dN,ah,iW,jE] at*;generalize jo a b G[i]=w1 at*;generalize jo b a G[i]=w2 at*;generalize iF a.ae[p] b.ae[q]=m at*;generalize iG (fun m:bp=>m.uid) L {m with uid:=nx}=L9 at*
 generalize iG (fun m:bp=>m.uid) L m=L8 at*;generalize a.ae[p]=ma at*;generalize b.ae[q]=mb at*;generalize G[i]=g at*;generalize ax G=rg at*;generalize ax a.gone=ga at*;generalize ax b.gone=gb at*;generalize a.ae.map ah=ra at*;generalize b.ae.map ah=rb at*;generalize L.map ah=rl at*;generalize m.flags.map aF=rm at*;generalize ma.flags.map aF=rma at*;generalize mb.flags.map aF=rmb at*;cases w1<;>cases w2<;>simp (maxSteps:=9^9) [cY.l0,aa,setAt,hi,hp1,hq1,h1,h2,h3,h4,h5,h6,h7,h8,h9,e5,e6,eg,a0,a1,a2,el,eA,eB,l8,l9,ab]
theorem M5(K:Mg M)(k u2 u3:Nat)(a b:bz)(ha:iw a)(hb:iw b)(G:List Int)(hG:G.length≤4194304)(i:Nat)(hi:i<G.length)(s:List bp×Int)(hs:s.1.length≤16777216)(hx: -1000000000≤s.2∧s.2≤1000000000000)(x:Nat×Nat)(c1:¬G[i]∈a.gone)(c2:¬G[i]∈b.gone)
  (p:Nat) (hp:gh a.ae G[i]=some p) (hq:gh b.ae G[i]=none):
  ∃y,cy (run M) k cY.l0 (Bs u2 u3 a b G i s x)=some (.normal,Bs u2 u3 a b G (i+1) (mr a b s G[i]) y):=by
 obtain⟨v,n⟩:=x;obtain⟨L,nx⟩:=s;simp only at hs hx;have h1:=bl.al K.G9 a.gone G[i] (by have:=ha.g;omega);have h2:=bl.al K.G9 b.gone G[i] (by have:=hb.g;omega);rw[decide_eq_false c1] at h1;rw[decide_eq_false c2] at h2;have h3:=bP.al K.at_ a G[i] ha.m;have h4:=bP.al K.at_ b G[i] hb.m;rw[hp] at h3;rw[hq] at h4;obtain⟨hp1,hp2⟩:=mE hp;have hq2:=ox.1 hq;have h5:=fU.al K.copy a.ae[p] (ha.f _ (ar hp1));have h6:=dP.al K.keeps a b G[i] ha.m hb.m;have h8:=cV.al K.put L a.ae[p] hs;have h9:=cV.al K.put L {a.ae[p] with uid:=nx} hs
 have e5:=cz (i:=i) (by omega);have e6:IntKind.i64.wrap (nx+1)=nx+1:=wrap_i64 (by omega) (by omega);have eg:=aI G;have a0:∀hh,(ax G)[i]'hh=[I G[i]]:=by intro hh;simp[ax]
 have a1:∀hh,(a.ae.map ah)[p]'hh=ah a.ae[p]:=by intro hh;simp
 have el:(L.map ah).length=L.length:=by simp
 have eA:(a.ae.map ah).length=a.ae.length:=by simp
 have eB:(b.ae.map ah).length=b.ae.length:=by simp
 have l8:((iG (fun m:bp=>m.uid) L a.ae[p]).map ah).length=(iG (fun m:bp=>m.uid) L a.ae[p]).length:=by simp
 have l9:((iG (fun m:bp=>m.uid) L {a.ae[p] with uid:=nx}).map ah).length=(iG (fun m:bp=>m.uid) L {a.ae[p] with uid:=nx}).length:=by simp
 have hst:mr a b (L,nx) G[i]=if(!jo a b G[i])=true then(iG (fun m:bp=>m.uid) L {a.ae[p] with uid:=nx},nx+1) else(iG (fun m:bp=>m.uid) L a.ae[p],nx):=by
  have e1:jg a b G[i]=(!jo a b G[i]):=by simp[jg,holds_of,hp,hq]
  have e2:nk a.ae b.ae G[i]=a.ae[p]:=by simp[nk,hp2,hq2]
  simp only[mr];rw[if_neg (by simp[c1,c2]),e1,e2]
 rw[hst];clear hst hp hq hp2 hq2 c1 c2;simp only[aH,Bs,Jv];simp only[af,ae,ints,dN,ah,iW,jE] at*;generalize jo a b G[i]=w1 at*;generalize a.ae[p]=m at*;generalize iG (fun m:bp=>m.uid) L {m with uid:=nx}=L9 at*
 generalize iG (fun m:bp=>m.uid) L m=L8 at*;generalize G[i]=g at*;generalize ax G=rg at*;generalize ax a.gone=ga at*;generalize ax b.gone=gb at*;generalize a.ae.map ah=ra at*;generalize b.ae.map ah=rb at*;generalize L.map ah=rl at*;generalize m.flags.map aF=rm at*;cases w1<;>simp (maxSteps:=9^9) [cY.l0,aa,setAt,hi,hp1,h1,h2,h3,h4,h5,h6,h8,h9,e5,e6,eg,a0,a1,el,eA,l8,l9,ab]
theorem M4(K:Mg M)(k u2 u3:Nat)(a b:bz)(ha:iw a)(hb:iw b)(G:List Int)(hG:G.length≤4194304)(i:Nat)(hi:i<G.length)(s:List bp×Int)(hs:s.1.length≤16777216)(hx: -1000000000≤s.2∧s.2≤1000000000000)(x:Nat×Nat)(c1:¬G[i]∈a.gone)(c2:¬G[i]∈b.gone)
  (q:Nat) (hp:gh a.ae G[i]=none) (hq:gh b.ae G[i]=some q):
  ∃y,cy (run M) k cY.l0 (Bs u2 u3 a b G i s x)=some (.normal,Bs u2 u3 a b G (i+1) (mr a b s G[i]) y):=by
 obtain⟨v,n⟩:=x;obtain⟨L,nx⟩:=s;simp only at hs hx;have h1:=bl.al K.G9 a.gone G[i] (by have:=ha.g;omega);have h2:=bl.al K.G9 b.gone G[i] (by have:=hb.g;omega);rw[decide_eq_false c1] at h1;rw[decide_eq_false c2] at h2;have h3:=bP.al K.at_ a G[i] ha.m;have h4:=bP.al K.at_ b G[i] hb.m;rw[hp] at h3;rw[hq] at h4;have hp2:=ox.1 hp;obtain⟨hq1,hq2⟩:=mE hq;have h5:=fU.al K.copy b.ae[q] (hb.f _ (ar hq1));have h7:=dP.al K.keeps b a G[i] hb.m ha.m;have h8:=cV.al K.put L b.ae[q] hs;have h9:=cV.al K.put L {b.ae[q] with uid:=nx} hs
 have e5:=cz (i:=i) (by omega);have e6:IntKind.i64.wrap (nx+1)=nx+1:=wrap_i64 (by omega) (by omega);have eg:=aI G;have a0:∀hh,(ax G)[i]'hh=[I G[i]]:=by intro hh;simp[ax]
 have a2:∀hh,(b.ae.map ah)[q]'hh=ah b.ae[q]:=by intro hh;simp
 have el:(L.map ah).length=L.length:=by simp
 have eA:(a.ae.map ah).length=a.ae.length:=by simp
 have eB:(b.ae.map ah).length=b.ae.length:=by simp
 have l8:((iG (fun m:bp=>m.uid) L b.ae[q]).map ah).length=(iG (fun m:bp=>m.uid) L b.ae[q]).length:=by simp
 have l9:((iG (fun m:bp=>m.uid) L {b.ae[q] with uid:=nx}).map ah).length=(iG (fun m:bp=>m.uid) L {b.ae[q] with uid:=nx}).length:=by simp
 have hst:mr a b (L,nx) G[i]=if(!jo b a G[i])=true then(iG (fun m:bp=>m.uid) L {b.ae[q] with uid:=nx},nx+1) else(iG (fun m:bp=>m.uid) L b.ae[q],nx):=by
  have e1:jg a b G[i]=(!jo b a G[i]):=by simp[jg,holds_of,hp,hq]
  have e2:nk a.ae b.ae G[i]=b.ae[q]:=by simp[nk,hp2,hq2]
  simp only[mr];rw[if_neg (by simp[c1,c2]),e1,e2]
 rw[hst];clear hst hp hq hp2 hq2 c1 c2;simp only[aH,Bs,Jv];simp only[af,ae,ints,dN,ah,iW,jE] at*;generalize jo b a G[i]=w2 at*;generalize b.ae[q]=m at*;generalize iG (fun m:bp=>m.uid) L {m with uid:=nx}=L9 at*
 generalize iG (fun m:bp=>m.uid) L m=L8 at*;generalize G[i]=g at*;generalize ax G=rg at*;generalize ax a.gone=ga at*;generalize ax b.gone=gb at*;generalize a.ae.map ah=ra at*;generalize b.ae.map ah=rb at*;generalize L.map ah=rl at*;generalize m.flags.map aF=rm at*;cases w2<;>simp (maxSteps:=9^9) [cY.l0,aa,setAt,hi,hq1,h1,h2,h3,h4,h5,h7,h8,h9,e5,e6,eg,a0,a2,el,eB,l8,l9,ab]
theorem DV(a b:bz)(s:List bp×Int)(g:Int):(mr a b s g).1.length≤s.1.length+1∧s.2≤(mr a b s g).2∧(mr a b s g).2≤s.2+1:=by
 have h:∀(L:List bp) (m:bp),(iG (fun m:bp=>m.uid) L m).length=L.length+1:=fun L m=>by
  have:=(xg (k:=fun m:bp=>m.uid) L m).length_eq;simpa using this
 unfold mr;split
 ·omega
 ·split
  ·simp only[h];omega
  ·simp only[h];omega
theorem cY.al(h:cY.k M)(a b:bz)(ha:iw a)(hb:iw b)(hna: -1000000000≤a.next∧a.next≤1000000000)(hnb: -1000000000≤b.next∧b.next≤1000000000):
  run M 439 [.a (af a),.a (af b)] []=some (.lL [.c (.sl true 4 ((jh a b).1.map ah)),.c (I (jh a b).2)],[]):=by
 obtain⟨h0,kk,ka,ki,kc,kn,kg,kj,kp⟩:=h;have K:Mg M:=⟨kk,ka,ki,kc,kj,kp⟩;have h1:=hZ.al kn a b;have h2:=dn.al kg a b ha.m hb.m;have hG:(aV (eI a.ae) (eI b.ae)).length≤4194304:=by
  have:=ke (eI a.ae) (eI b.ae);have e1:(eI a.ae).length=a.ae.length:=by simp[eI]
  have e2:(eI b.ae).length=b.ae.length:=by simp[eI]
  have:=ha.m;have:=hb.m;omega
 have hmem:∀g∈aV (eI a.ae) (eI b.ae),g∈eI a.ae∨g∈eI b.ae:=fun g hg=>(iU _ _ _).1 hg
 have hJ:jh a b=(aV (eI a.ae) (eI b.ae)).foldl (mr a b) ([],Max.max a.next b.next):=rfl;rw[hJ];have eg:=aI (aV (eI a.ae) (eI b.ae));clear hJ;generalize aV (eI a.ae) (eI b.ae)=G at*;generalize hmx:Max.max a.next b.next=mx at*;refine ao (b:=cY.m) h0 ⟨G.length+1, ?_⟩;obtain⟨g,hr⟩:=jz (f:=cy (run M) (G.length+1) cY.l0) G (mr a b) (fun i s=>s.1.length≤i∧mx≤s.2∧s.2≤mx+i) (Bs 2000000 2000016 a b G) 0 (Mr 2000000 2000016 a b G)
  (fun i hi s hs=>by have:=DV a b s G[i];omega)
  (fun i hi s x hs=>by
   by_cases c1:G[i]∈a.gone
   ·have e:mr a b s G[i]=s:=by unfold mr;rw[if_pos (.inl c1)]
    rw[e];exact C0 K _ _ _ a b ha hb G hG i hi s x (.inl c1)
   by_cases c2:G[i]∈b.gone
   ·have e:mr a b s G[i]=s:=by unfold mr;rw[if_pos (.inr c2)]
    rw[e];exact C0 K _ _ _ a b ha hb G hG i hi s x (.inr c2)
   cases hp:gh a.ae G[i] with
   |some p=>
    cases hq:gh b.ae G[i] with
    |some q=>exact HE K _ _ _ a b ha hb G hG i hi s (by omega) (by omega) x c1 c2 p q hp hq
    |none=>exact M5 K _ _ _ a b ha hb G hG i hi s (by omega) (by omega) x c1 c2 p hp hq
   |none=>
    cases hq:gh b.ae G[i] with
    |some q=>exact M4 K _ _ _ a b ha hb G hG i hi s (by omega) (by omega) x c1 c2 q hp hq
    |none=>
     exfalso;rcases hmem _ (ar hi) with z|z
     ·obtain⟨m,hm,e⟩:=List.mem_map.1 z;exact qy.1 hp m hm e
     ·obtain⟨m,hm,e⟩:=List.mem_map.1 z;exact qy.1 hq m hm e)
  (fun s x hs=>JZ _ _ _ a b G s x) ([],mx) ⟨by simp,by simp,by simp⟩
 have hr0:=hr (2000128,2000240);generalize g (2000128,2000240)=y at*;obtain⟨v,n⟩:=y;have el:((G.foldl (mr a b) ([],mx)).1.map ah).length=(G.foldl (mr a b) ([],mx)).1.length:=by simp
 generalize G.foldl (mr a b) ([],mx)=R at*;obtain⟨L,nx⟩:=R;have ez:((0:Nat):Int)=0:=rfl;simp only[Bs,Mr,Jv,ez,bJ,eJ] at hr0;simp only at el ⊢;simp only[af,ae,ints] at*;generalize ax G=rg at*;generalize ax a.gone=ga at*;generalize ax b.gone=gb at*;generalize a.ae.map ah=ra at*;generalize b.ae.map ah=rb at*;generalize L.map ah=rl at*;simp (maxSteps:=9^9) [a8,cY.m,cY.b,aa,hr0,h1,h2,el,ab]
theorem FL(t w u x:Int)(p:Prop):(ld u x t w=true∨ld t w u x=false∧p)↔(ld u x t w=true∨(t=u∧w=x)∧p):=by
 simp only[uA,yK];by_cases hp:p
 ·simp only[hp,and_true];omega
 ·simp only[hp,and_false,or_false]
theorem zK(a b:bz):ig a b=if a.gid=b.gid then
  {gid:=a.gid,name:=if ld b.time b.eD a.time a.eD=true∨(a.time=b.time∧a.eD=b.eD)∧jD a.name b.name=true then b.name else a.name,
   time:=if ld b.time b.eD a.time a.eD=true∨(a.time=b.time∧a.eD=b.eD)∧jD a.name b.name=true then b.time else a.time,
   eD:=if ld b.time b.eD a.time a.eD=true∨(a.time=b.time∧a.eD=b.eD)∧jD a.name b.name=true then b.eD else a.eD,
   next:=(jh a b).2,ae:=(jh a b).1,gone:=aV a.gone b.gone} else a:=by
 unfold ig;simp only[FL a.time a.eD b.time b.eD]
theorem eY.al(h:eY.k M)(a b:bz)(H:xV a b):run M 405 [.a (af a),.a (af b)] []=some (.a (bM (ig a b)),[]):=by
 obtain⟨h0,kg,kc,kl,kj⟩:=h;have h1:=b5.al kc a H.ia;have h2:=aY.al kg a.gone b.gone H.ia.g H.ib.g;have h3:=iq.al kl b.time b.eD a.time a.eD;have h5:=cY.al kj a b H.ia H.ib H.xa H.xb;have e1:(aV a.gone b.gone).length≤4194304:=by
  have:=ke a.gone b.gone;have:=H.ia.g;have:=H.ib.g;omega
 have e2:=aI (aV a.gone b.gone);have e3:((jh a b).1.map ah).length=(jh a b).1.length:=by simp
 have e4:(a.ae.map ah).length=a.ae.length:=by simp
 have e5:=aI a.gone;have e6:=uM a.name b.name;refine ao (b:=eY.m) h0 ⟨0, ?_⟩;rw[zK];by_cases c:a.gid=b.gid
 ·rw[if_pos c];simp only[af,bM,ae,ints] at*;rw[c] at h5;generalize hx:ld b.time b.eD a.time a.eD=x at*;generalize hw:jD a.name b.name=w at*;generalize (jh a b).1.map ah=rj at*;generalize (jh a b).1.length=nj at*;generalize (jh a b).2=xj at*;generalize ax (aV a.gone b.gone)=gj at*;generalize a.ae.map ah=ra at*;generalize b.ae.map ah=rb at*;generalize ax a.gone=ga at*;generalize ax b.gone=gb at*;clear hx hw;obtain⟨ag,an,at',aw,anx,am,ago⟩:=a;obtain⟨bg,bn,bt,bw,bnx,bm,bgo⟩:=b;simp only at*;cases x
  ·by_cases c2:at'=bt
   ·subst c2;by_cases c3:aw=bw
    ·subst c3;cases w<;>simp (maxSteps:=9^9) [a8,eY.m,eY.b,aa,setAt,h2,h3,h5,c,e2,e3,e6,ab]
    ·simp (maxSteps:=9^9) [a8,eY.m,eY.b,aa,setAt,h2,h3,h5,c,c3,e2,e3,ab]
   ·simp (maxSteps:=9^9) [a8,eY.m,eY.b,aa,setAt,h2,h3,h5,c,c2,e2,e3,ab]
  ·simp (maxSteps:=9^9) [a8,eY.m,eY.b,aa,setAt,h2,h3,h5,c,e2,e3,ab]
 ·rw[if_neg c];simp only[af,bM,ae,ints] at*;generalize a.ae.map ah=ra at*;generalize b.ae.map ah=rb at*;generalize ax a.gone=ga at*;generalize ax b.gone=gb at*;simp (maxSteps:=9^9) [a8,eY.m,eY.b,aa,setAt,h1,c,e4,e5,ab]
deriving instance DecidableEq for mB
deriving instance DecidableEq for bp
deriving instance DecidableEq for bz
theorem tV{α:Type}[DecidableEq α](la lb:List α)(hl:la.length=lb.length){f:St→Option (Out×St)}{β:Type}(S:Nat→β→St)(c e:Nat)(E:β→St)
  (h1:∀i (h:i<la.length) (h':i<lb.length) x,la[i]=lb[i]→∃y,f (S i x)=some (.normal,S (i+1) y))
  (h2:∀i (h:i<la.length) (h':i<lb.length) x,¬la[i]=lb[i]→∃n,f (S i x)=some (.ret,{t:=[(c,.c (.bool false))],o:=[],n:=n}))
  (h3:∀x,∃y,f (S la.length x)=some (.exit e,E y)):
  ∃g:β→β×Nat,∀x,fi f (la.length+1) (S 0 x)=some (if la=lb then(.exit e,E (g x).1) else(.ret,{t:=[(c,.c (.bool false))],o:=[],n:=(g x).2})):=by
 have key:=jP (f:=f) S (fun i=>i≤la.length) (fun i=>la.length-i) (fun i=>decide (la.drop i=lb.drop i))
  (fun q (m:β×Nat)=>if q=true then(.exit e,E m.1) else(.ret,{t:=[(c,.c (.bool false))],o:=[],n:=m.2})) (by
   intro i x hi;by_cases hlt:i<la.length
   ·have hlt':i<lb.length:=by omega
    have hd:(la.drop i=lb.drop i)↔(la[i]=lb[i]∧la.drop (i+1)=lb.drop (i+1)):=by
     rw[bC hlt,bC hlt',List.cons.injEq]
    by_cases c':la[i]=lb[i]
    ·obtain⟨y,hy⟩:=h1 i hlt hlt' x c';exact .inl ⟨i+1,y,hy,hlt,by omega,by rw[decide_eq_decide,hd];simp[c']⟩
    ·obtain⟨n,hn⟩:=h2 i hlt hlt' x c';have hf:decide (la.drop i=lb.drop i)=false:=decide_eq_false fun q=>c' (hd.1 q).1
     exact .inr ⟨(x,n),by rw[hn,hf];simp,by rw[hf];simp⟩
   ·have:i=la.length:=by omega
    subst this;obtain⟨y,hy⟩:=h3 x;have hd:lb.drop la.length=[]:=eK (by omega);exact .inr ⟨(y,0),by rw[hy];simp[hd],by simp[hd]⟩) (la.length+1) 0 (Nat.zero_le _) (by omega)
 obtain⟨g,hg⟩:=key;refine⟨g,fun x=> ?_⟩;rw[hg x];simp only[List.drop_zero,decide_eq_true_eq]
theorem HH{x y:mB}(h1:x.val=y.val)(h2:x.time=y.time)(h3:x.eD=y.eD):x=y:=by
 cases x;cases y;simp_all
theorem FH{x y:bp}(h1:x.gid=y.gid)(h2:x.uid=y.uid)(h3:x.flags=y.flags)(h4:x.text=y.text):x=y:=by
 cases x;cases y;simp_all
theorem I0{x y:bz}(h1:x.gid=y.gid)(h2:x.name=y.name)(h3:x.time=y.time)(h3':x.eD=y.eD)(h4:x.next=y.next)(h5:x.ae=y.ae)(h6:x.gone=y.gone):x=y:=by
 cases x;cases y;simp_all
def KX(a b:bp)(i:Nat)(x:Nat×Nat×Nat):St:={t:=[(2,.c (.ptr 2 x.1 0 0)),(3,.c (.ptr 3 x.2.1 0 0)),(5,.c (I i))],o:=[(2,⟨x.1,4,true,true,[ah a]⟩),(3,⟨x.2.1,4,true,true,[ah b]⟩)],n:=x.2.2}
def M3(a b:bp)(x:Nat×Nat×Nat):St:={t:=[(2,.c (.ptr 2 x.1 0 0)),(3,.c (.ptr 3 x.2.1 0 0)),(5,.c (I a.flags.length)),(38,.c (.bool false))],o:=[(2,⟨x.1,4,true,true,[ah a]⟩),(3,⟨x.2.1,4,true,true,[ah b]⟩)],n:=x.2.2}
theorem cn.al(h:cn.k M)(a b:bp)(ha:a.flags.length≤1048576):run M 159 [.a (ah a),.a (ah b)] []=some (.c (.bool (decide (a=b))),[]):=by
 refine ao (b:=cn.m) h ⟨a.flags.length+1, ?_⟩;by_cases c1:a.gid=b.gid;rotate_left
 ·have hne:¬a=b:=fun q=>c1 (by rw[q])
  simp[a8,cn.m,cn.b,aa,c1,hne]
 by_cases c2:a.uid=b.uid;rotate_left
 ·have hne:¬a=b:=fun q=>c2 (by rw[q])
  simp[a8,cn.m,cn.b,aa,c1,c2,hne]
 by_cases c3:a.text=b.text;rotate_left
 ·have hne:¬a=b:=fun q=>c3 (by rw[q])
  simp[a8,cn.m,cn.b,aa,c1,c2,c3,hne]
 by_cases c4:a.flags.length=b.flags.length;rotate_left
 ·have hne:¬a=b:=fun q=>c4 (by rw[q])
  have c4':¬(a.flags.length:Int)=b.flags.length:=by omega
  simp[a8,cn.m,cn.b,aa,c1,c2,c3,c4',hne]
 obtain⟨g,hr⟩:=tV a.flags b.flags c4 (f:=cy (run M) (a.flags.length+1) cn.l0) (KX a b) 4 0 (M3 a b)
  (fun i hi hi' x c=>by
   obtain⟨v,w,x⟩:=x;have e5:=cz (i:=i) (by omega);simp only[aH];simp[KX,cn.l0,hi,hi',e5,aF,ti,Bu,c])
  (fun i hi hi' x c=>by
   obtain⟨v,w,x⟩:=x;by_cases q1:a.flags[i].val=b.flags[i].val<;>by_cases q2:a.flags[i].time=b.flags[i].time<;>by_cases q3:a.flags[i].eD=b.flags[i].eD<;>
    first
    |exact absurd (HH q1 q2 q3) c
    |simp[KX,cn.l0,hi,hi',aF,ti,Bu,q1,q2,q3])
  (fun x=>by
   obtain⟨v,w,x⟩:=x;simp only[aH];simp[KX,M3,cn.l0])
 by_cases c5:a.flags=b.flags
 ·have he:a=b:=FH c1 c2 c5 c3;simp only[c5,if_true] at hr;simp[KX,M3,ah,←c5] at hr;subst he;simp[a8,cn.m,cn.b,aa,hr]
 ·have hne:¬a=b:=fun q=>c5 (by rw[q])
  simp only[c5,if_false] at hr;simp[KX,ah,c1,c2,c3,c4] at hr;simp[a8,cn.m,cn.b,aa,ah,c1,c2,c3,c4,hr,hne]
theorem lD.al(h:lD.k M)(R:List (List T))(hl:R.length≤9223372036854775807):run M 36 [.c (.sl false 1 R)] []=some (.c (.bool (decide (1048576<R.length))),[]):=by
 refine ao (b:=lD.m) h ⟨0, ?_⟩;simp (maxSteps:=9^9) [a8,lD.m,lD.b,aa];omega
theorem y8(l:List bp):(allM l l).length=l.length:=by
 have h:(l.filter fun m=>(jL l m.gid).isNone)=[]:=List.filter_eq_nil_iff.2 fun m hm c=>by
  rw[b9] at c;exact oB.1 c m hm rfl
 simp only[allM,aC,gD,h,eJ,Nat.add_zero]
theorem w7{a b:bz}(ha:(eI a.ae).Nodup)(hb:(eI b.ae).Nodup):(jh a b).2≤Max.max a.next b.next+(a.ae.length+b.ae.length:Nat):=by
 rw[←pW ha hb];simp only[oP];have h1:=(nc (jg a b) (fv (·.gid) ((allM a.ae b.ae).filter fun m=> !decide (m.gid∈aV a.gone b.gone))) (Max.max a.next b.next)).2;rw[iR] at h1;have h2:=bV (fun m:bp=> !decide (m.gid∈aV a.gone b.gone)) (allM a.ae b.ae);have h3:=DB a.ae b.ae;omega
theorem zF{a b:bz}(ha:(eI a.ae).Nodup)(hb:(eI b.ae).Nodup):(eI (jh a b).1).Nodup:=
 (zH ha hb).nodup_iff.2 (by
  have:=(nS (eI a.ae) (eI b.ae)).filter (fun g=> !decide (g∈aV a.gone b.gone));exact this.imp fun h=>by omega)
theorem Bl{a b:bz}(ha:Good a)(hb:Good b):xV (ig a b) (ig a b):=by
 have H:=ha.AM hb;have hin:=sZ H;have h1:(ig a b).gone.length≤500000:=by
  unfold ig;split
  ·have:=ke a.gone b.gone;have:=ha.nL;have:=hb.nL;simp only;omega
  ·exact H.ga
 have h2:(eI (ig a b).ae).Nodup:=by
  unfold ig;split
  ·exact zF ha.nd hb.nd
  ·exact ha.nd
 have h3:(ig a b).ae.length≤20:=by
  unfold ig;split
  ·exact tK H
  ·have:=ha.len;omega
 have h4: -1000000000≤(ig a b).next∧(ig a b).next≤1000000000:=by
  have q1:=w7 ha.nd hb.nd;have q2:=AN ha.nd hb.nd;have:=ha.next;have:=hb.next;have:=ha.len;have:=hb.len;unfold ig;split
  ·simp only;omega
  ·omega
 exact⟨hin,hin,h1,h1,h2,h2,by rw[y8];exact h3,h4,h4⟩
def kS(a b:List bz):List bz:=a.map fun x=>match kV b x.gid with|some y=>ig x y|none=>x
theorem qG(a b:List bz):(kS a b).length=a.length:=by simp[kS]
def oE(a b:List bz):List bz:=kS a b++b.filter fun x=>(kV a x.gid).isNone
def oO(acc:List bz)(x:bz):List bz:=acc++[if(acc.any fun y=>decide (y.name=x.name))=true then {x with name:=kX x.name x.gid} else x]
def qf(l:List bz):List bz:=l.foldl oO []
def lf(a b:List bz)(G:List Int):List bz:=qf (fv (·.gid) ((oE a b).filter fun x=> !decide (x.gid∈G)))
structure mC (l:List bz):Prop where
 len:l.length≤5
 j2:∀b∈l,Good b
structure EW where
 i:Nat
 v:Nat
 n:Nat
def ET(u5:Nat)(G:List Int)(v:Nat)(rows:List (List T)):List (Nat×Ob):=[(5,⟨u5,1,true,true,[[ints G]]⟩),(16,⟨v,7,true,false,rows⟩)]
def Ii(u5:Nat)(a b:List bz)(G:List Int)(s:EW):St:={t:=[(0,.c (boxes a)),(1,.c (boxes b)),(5,.c (.ptr 5 u5 0 0)),(7,.c (.row 16 s.v 0 s.i)),(8,.c (.fn 476 [])),(17,.c (boxes a)),(18,.c (I a.length)),(19,.c (I s.i))],o:=ET u5 G s.v (((kS a b).take s.i).map af),n:=s.n}
def LZ(u5:Nat)(a b:List bz)(G:List Int)(s:EW):St:={t:=[(0,.c (boxes a)),(1,.c (boxes b)),(5,.c (.ptr 5 u5 0 0)),(7,.c (.row 16 s.v 0 s.i)),(8,.c (.fn 476 [])),(17,.c (boxes a)),(18,.c (I a.length)),(19,.c (I s.i)),(20,.c (.bool false))],o:=ET u5 G s.v (((kS a b).take s.i).map af),n:=s.n}
structure KT (M:Nat→Option Body):Prop where
 copy:cA.k M
 join:gV.k M
 at_:fa.k M
 del:aE.k M
 c2:fC.k M
 sort:bd.k M
 c3:fB.k M
 has:bj.k M
 c4:fA.k M
 name:cL.k M
theorem Ig(K:KT M)(k u5:Nat)(a b:List bz)(G:List Int)(ha:mC a)(hb:mC b)(s:EW)(hs:s.i<a.length):
  ∃v' n',cy (run M) k bA.l0 (Ii u5 a b G s)=some (.normal,Ii u5 a b G ⟨s.i+1,v',n'⟩):=by
 obtain⟨i,v,n⟩:=s;simp only at hs;have hla:=ha.len;have hlb:=hb.len;have gx:=ha.j2 _ (ar hs);have h1:=fa.al K.at_ b a[i].gid (by omega);have e5:=cz (i:=i) (by omega);have e6:i+1≤4294967296:=by omega
 have hl:=qG a b;have e7:(((kS a b).take i).map af).length=i:=by simp[hl];omega
 have e9:(a.map af).length=a.length:=by simp
 have e8:((kS a b).take (i+1)).map af=((kS a b).take i).map af++[af (kS a b)[i]]:=by
  rw[il _ _ (by rw[hl];exact hs),cU];rfl
 have a1:∀hh,(a.map af)[i]'hh=af a[i]:=by intro hh;simp
 cases hq:me b a[i].gid with
 |none=>
  rw[hq] at h1;have h2:=cA.al K.copy a[i] gx.tM;have ef:(kS a b)[i]'(by rw[hl];exact hs)=a[i]:=by
   simp only[kS,fb,o9 hq]
  rw[ef] at e8;simp only[Ii,ET,e8];simp only[af,bM,boxes,ae,ints,dN] at h1 h2 a1 ⊢;generalize List.map af ((kS a b).take i)=rr at*;generalize a.map af=ra at*;generalize b.map af=rb at*;generalize a[i].ae.map ah=rm at*;generalize ax a[i].gone=rg at*;generalize ax G=gj at*;simp (maxSteps:=9^9) [bA.l0,aa,setAt,h1,h2,hs,e5,e6,e7,e9,a1,ab]
 |some q=>
  rw[hq] at h1;obtain⟨hq1,hq2⟩:=iO hq;have gy:=hb.j2 _ (ar hq1);have h3:=gV.al K.join a[i] b[q] (gx.AM gy);have h2:=cA.al K.copy (ig a[i] b[q]) (sZ (gx.AM gy));have ef:(kS a b)[i]'(by rw[hl];exact hs)=ig a[i] b[q]:=by
   simp only[kS,fb,hq2]
  rw[ef] at e8;have e10:(b.map af).length=b.length:=by simp
  have a2:∀hh,(b.map af)[q]'hh=af b[q]:=by intro hh;simp
  simp only[Ii,ET,e8];simp only[af,bM,boxes,ae,ints,dN] at h1 h2 h3 a1 a2 ⊢;generalize ig a[i] b[q]=j at*;generalize List.map af ((kS a b).take i)=rr at*;generalize a.map af=ra at*;generalize b.map af=rb at*;generalize a[i].ae.map ah=rm at*;generalize ax a[i].gone=rg at*;generalize b[q].ae.map ah=rmb at*;generalize ax b[q].gone=rgb at*;generalize j.ae.map ah=rmj at*;generalize ax j.gone=rgj at*;generalize ax G=gj at*;simp (maxSteps:=9^9) [bA.l0,aa,setAt,h1,h2,h3,hs,hq1,e5,e6,e7,e9,e10,a1,a2,ab]
theorem Kp(k u5:Nat)(a b:List bz)(G:List Int)(s:EW)(hs:¬s.i<a.length):
  ∃n',cy (run M) k bA.l0 (Ii u5 a b G s)=some (.exit 0,LZ u5 a b G ⟨s.i,s.v,n'⟩):=by
 obtain⟨i,v,n⟩:=s;simp only at hs;simp only[Ii,LZ,ET];generalize List.map af ((kS a b).take i)=rr at*;simp only[boxes,ints];generalize a.map af=ra at*;generalize b.map af=rb at*;simp (maxSteps:=9^9) [bA.l0,aa,hs]
def ny(a b:List bz)(i:Nat):List bz:=kS a b++(b.take i).filter fun x=>(kV a x.gid).isNone
theorem DS(a b:List bz):ny a b b.length=oE a b:=by simp[ny,oE]
theorem Bz(a b:List bz):ny a b 0=kS a b:=by simp[ny]
theorem DR(a b:List bz)(i:Nat)(hi:i≤b.length):(ny a b i).length≤a.length+i:=by
 have:=bV (fun x:bz=>(kV a x.gid).isNone) (b.take i);simp only[ny,aC,qG];simp at this;omega
def Ie(u5:Nat)(a b:List bz)(G:List Int)(s:EW):St:={t:=[(0,.c (boxes a)),(5,.c (.ptr 5 u5 0 0)),(7,.c (.row 16 s.v 0 (ny a b s.i).length)),(8,.c (.fn 476 [])),(42,.c (boxes b)),(43,.c (I b.length)),(44,.c (I s.i))],o:=ET u5 G s.v ((ny a b s.i).map af),n:=s.n}
def LY(u5:Nat)(a b:List bz)(G:List Int)(s:EW):St:={t:=[(0,.c (boxes a)),(5,.c (.ptr 5 u5 0 0)),(7,.c (.row 16 s.v 0 (ny a b s.i).length)),(8,.c (.fn 476 [])),(42,.c (boxes b)),(43,.c (I b.length)),(44,.c (I s.i)),(45,.c (.bool false))],o:=ET u5 G s.v ((ny a b s.i).map af),n:=s.n}
theorem Ib(K:KT M)(k u5:Nat)(a b:List bz)(G:List Int)(ha:mC a)(hb:mC b)(s:EW)(hs:s.i<b.length):
  ∃v' n',cy (run M) k bA.l1 (Ie u5 a b G s)=some (.normal,Ie u5 a b G ⟨s.i+1,v',n'⟩):=by
 obtain⟨i,v,n⟩:=s;simp only at hs;have hla:=ha.len;have hlb:=hb.len;have gx:=hb.j2 _ (ar hs);have h1:=fa.al K.at_ a b[i].gid (by omega);have e5:=cz (i:=i) (by omega);have hl:=DR a b i (by omega);have e7:((ny a b i).map af).length=(ny a b i).length:=by simp
 have e6:(ny a b i).length+1≤4294967296:=by omega
 have e9:(b.map af).length=b.length:=by simp
 have a1:∀hh,(b.map af)[i]'hh=af b[i]:=by intro hh;simp
 have eu:ny a b (i+1)=ny a b i++if(kV a b[i].gid).isNone=true then [b[i]] else []:=by
  simp only[ny,il _ _ hs,List.filter_append,ct];cases q:(kV a b[i].gid).isNone<;>simp[q]
 cases hq:me a b[i].gid with
 |some q=>
  rw[hq] at h1;obtain⟨hq1,hq2⟩:=iO hq;have nq:¬(q:Int)<0:=by omega
  rw[hq2] at eu;simp only[Option.isNone_some,ay,if_false,eM] at eu;simp only[Ie,ET,eu];simp only[af,boxes,ae,ints,dN] at h1 a1 ⊢;generalize List.map af (ny a b i)=rr at*;generalize (ny a b i).length=nr at*;generalize a.map af=ra at*;generalize b.map af=rb at*;generalize b[i].ae.map ah=rm at*;generalize ax b[i].gone=rg at*;generalize ax G=gj at*;simp (maxSteps:=9^9) [bA.l1,setAt,h1,hs,nq,e5,e9,a1,ab]
 |none=>
  rw[hq] at h1;have h2:=cA.al K.copy b[i] gx.tM;rw[o9 hq] at eu;simp only[Option.isNone_none,if_true] at eu;simp only[Ie,ET,eu,cU,bB,bJ,aC,bU];simp only[af,bM,boxes,ae,ints,dN] at h1 h2 a1 ⊢;generalize List.map af (ny a b i)=rr at*;generalize (ny a b i).length=nr at*;generalize a.map af=ra at*;generalize b.map af=rb at*;generalize b[i].ae.map ah=rm at*;generalize ax b[i].gone=rg at*;generalize ax G=gj at*;simp (maxSteps:=9^9) [bA.l1,setAt,h1,h2,hs,e5,e6,e7,e9,a1,ab]
theorem Ko(k u5:Nat)(a b:List bz)(G:List Int)(s:EW)(hs:¬s.i<b.length):
  ∃n',cy (run M) k bA.l1 (Ie u5 a b G s)=some (.exit 2,LY u5 a b G ⟨s.i,s.v,n'⟩):=by
 obtain⟨i,v,n⟩:=s;simp only at hs;simp only[Ie,LY,ET];generalize List.map af (ny a b i)=rr at*;simp only[boxes,ints];generalize a.map af=ra at*;generalize b.map af=rb at*;simp (maxSteps:=9^9) [bA.l1,hs]
def pF(acc:List bz)(x:bz):bz:=if(acc.any fun y=>decide (y.name=x.name))=true then {x with name:=kX x.name x.gid} else x
theorem qt(acc:List bz)(x:bz):oO acc x=acc++[pF acc x]:=rfl
theorem Fx(l:List bz)(x:bz):qf (l++[x])=qf l++[pF (qf l) x]:=by
 unfold qf;rw[List.foldl_append];rfl
theorem tv:∀(l acc:List bz),(l.foldl oO acc).length=acc.length+l.length
 |[],acc=>by simp
 |x::l,acc=>by
  rw[ff,tv l,qt];simp;omega
theorem lz(l:List bz):(qf l).length=l.length:=by unfold qf;rw[tv];simp
def jA(l:List bz)(i:Nat):List bz:=qf (l.take i)++l.drop i
theorem wF(l:List bz):jA l 0=l:=by simp[jA,qf]
theorem yE(l:List bz):jA l l.length=qf l:=by simp[jA]
theorem oX(l:List bz)(i:Nat):(jA l i).length=l.length:=by
 simp only[jA,aC,lz,jn,List.length_drop];omega
theorem wH(l:List bz)(i:Nat)(h:i<l.length):(jA l i)[i]'(by rw[oX];exact h)=l[i]:=by
 have e:(qf (l.take i)).length=i:=by rw[lz];simp;omega
 simp only[jA];rw[List.getElem_append_right (by omega)];simp[e]
theorem wG(l:List bz)(i:Nat)(h:i<l.length):jA l (i+1)=(jA l i).set i (pF (qf (l.take i)) l[i]):=by
 have e:(qf (l.take i)).length=i:=by rw[lz];simp;omega
 have hd:l.drop i=l[i]::l.drop (i+1):=bC h;simp only[jA,il l i h,Fx];rw[List.set_append_right _ _ (by omega),e,Nat.sub_self];simp;rw[hd];rfl
def Jw(L:List bz)(Z:List (List T))(s:EW):St:={t:=[(7,.c (.row 16 s.v 0 L.length)),(65,.c (.row 16 s.v 0 L.length)),(66,.c (I L.length)),(67,.c (I s.i))],o:=[(16,⟨s.v,7,true,false,(jA L s.i).map af++Z⟩)],n:=s.n}
def LX(L:List bz)(Z:List (List T))(s:EW):St:={t:=[(7,.c (.row 16 s.v 0 L.length)),(65,.c (.row 16 s.v 0 L.length)),(66,.c (I L.length)),(67,.c (I s.i)),(68,.c (.bool false))],o:=[(16,⟨s.v,7,true,false,(jA L s.i).map af++Z⟩)],n:=s.n}
theorem H_(K:KT M)(k:Nat)(L:List bz)(Z:List (List T))(hL:L.length≤1048576)(hb:∀b∈L,b.name.length≤1048576∧b.gid≤9223372036854775807)(s:EW)(hs:s.i<L.length):
  ∃n',cy (run M) k bA.l2 (Jw L Z s)=some (.normal,Jw L Z ⟨s.i+1,s.v,n'⟩):=by
 obtain⟨i,v,n⟩:=s;simp only at hs;have hx:=hb _ (ar hs);have hr1:(qf (L.take i)).length=i:=by rw[lz];simp;omega
 have h1:=bj.al K.has (fun y=>fA.al K.c4 y L[i]) (qf (L.take i)) (by omega);have h2:=cL.al K.name L[i].name L[i].gid hx.1 hx.2;have e5:=cz (i:=i) (by omega);have el:((jA L i).map af).length=L.length:=by simp[oX]
 have e7:i<((jA L i).map af++Z).length:=by simp[oX];omega
 have e8:i≤((jA L i).map af++Z).length:=by omega
 have a1:∀hh,((jA L i).map af++Z)[i]'hh=af L[i]:=by
  intro hh;rw[List.getElem_append_left (by omega)];simp only[fb,wH L i hs]
 have e9:((jA L i).map af++Z).take i=(qf (L.take i)).map af:=by
  rw[List.take_append_of_le_length (by omega),←List.map_take];congr 1;simp only[jA];rw[List.take_append_of_le_length (by omega)];exact ab (by omega)
 have t3:(jA L (i+1)).map af++Z=((jA L i).map af++Z).set i (af (pF (qf (L.take i)) L[i])):=by
  rw[wG L i hs,fR,List.set_append_left _ _ (by omega)]
 have e10:i≤L.length:=by omega
 simp only[Jw,t3];clear t3 el;unfold pF;generalize (qf (L.take i)).any (fun y=>decide (y.name=L[i].name))=w at*;simp only[boxes] at h1;generalize (qf (L.take i)).map af=rp at*;generalize (jA L i).map af++Z=rr at*;generalize kX L[i].name L[i].gid=nm at*;simp only[af,ae,ints] at h1 a1 ⊢;generalize L[i]=x at*;generalize L.length=N at*;generalize hm:x.ae.map ah=rm at*;generalize hg:ax x.gone=rg at*;cases w
 ·simp only[ay,if_false];rw[hm,hg];have e11:rr.set i [I x.gid,S x.name,I x.time,I x.eD,I x.next,T.sl false 4 rm,T.sl false 1 rg]=rr:=by
   rw[←a1 e7,List.set_getElem_self]
  rw[e11];simp (maxSteps:=9^9) [bA.l2,setAt,hs,h1,e5,e7,e8,e9,e10,a1,ab]
 ·simp only[if_true];rw[hm,hg];simp (maxSteps:=9^9) [bA.l2,setAt,hs,h1,h2,e5,e7,e8,e9,e10,a1,ab]
theorem Km(k:Nat)(L:List bz)(Z:List (List T))(s:EW)(hs:¬s.i<L.length):
  ∃n',cy (run M) k bA.l2 (Jw L Z s)=some (.exit 4,LX L Z ⟨s.i,s.v,n'⟩):=by
 obtain⟨i,v,n⟩:=s;simp only at hs;simp only[Jw,LX];generalize (jA L i).map af++Z=rr at*;simp (maxSteps:=9^9) [bA.l2,hs]
theorem Ih(K:KT M)(k u5:Nat)(a b:List bz)(G:List Int)(ha:mC a)(hb:mC b)(v n:Nat)(hk:a.length<k):
  ∃v' n',fi (cy (run M) k bA.l0) k (Ii u5 a b G ⟨0,v,n⟩)=some (.exit 0,LZ u5 a b G ⟨a.length,v',n'⟩):=by
 obtain⟨r,hr,⟨⟨i,v',n'⟩,rfl,hi⟩⟩:=kC (f:=cy (run M) k bA.l0) (Ii u5 a b G) (fun s=>s.i≤a.length) (fun s=>a.length-s.i) (fun r=>∃s',r=(.exit 0,LZ u5 a b G s')∧s'.i=a.length)
  (fun s hs=>by
   by_cases c:s.i<a.length
   ·left;obtain⟨v',n',hh⟩:=Ig K k u5 a b G ha hb s c;exact⟨_,hh,by simp only;omega,by simp only;omega⟩
   ·right;obtain⟨n',hh⟩:=Kp (M:=M) k u5 a b G s c;exact⟨_,hh,by simp,_,rfl,by simp only;omega⟩) k ⟨0,v,n⟩ (by simp) (by simp only;omega)
 simp only at hi;subst hi;exact⟨v',n',hr⟩
theorem Ic(K:KT M)(k u5:Nat)(a b:List bz)(G:List Int)(ha:mC a)(hb:mC b)(v n:Nat)(hk:b.length<k):
  ∃v' n',fi (cy (run M) k bA.l1) k (Ie u5 a b G ⟨0,v,n⟩)=some (.exit 2,LY u5 a b G ⟨b.length,v',n'⟩):=by
 obtain⟨r,hr,⟨⟨i,v',n'⟩,rfl,hi⟩⟩:=kC (f:=cy (run M) k bA.l1) (Ie u5 a b G) (fun s=>s.i≤b.length) (fun s=>b.length-s.i) (fun r=>∃s',r=(.exit 2,LY u5 a b G s')∧s'.i=b.length)
  (fun s hs=>by
   by_cases c:s.i<b.length
   ·left;obtain⟨v',n',hh⟩:=Ib K k u5 a b G ha hb s c;exact⟨_,hh,by simp only;omega,by simp only;omega⟩
   ·right;obtain⟨n',hh⟩:=Ko (M:=M) k u5 a b G s c;exact⟨_,hh,by simp,_,rfl,by simp only;omega⟩) k ⟨0,v,n⟩ (by simp) (by simp only;omega)
 simp only at hi;subst hi;exact⟨v',n',hr⟩
theorem Ia(K:KT M)(k:Nat)(L:List bz)(Z:List (List T))(hL:L.length≤1048576)(hb:∀b∈L,b.name.length≤1048576∧b.gid≤9223372036854775807)(v n:Nat)(hk:L.length<k):
  ∃n',fi (cy (run M) k bA.l2) k (Jw L Z ⟨0,v,n⟩)=some (.exit 4,LX L Z ⟨L.length,v,n'⟩):=by
 obtain⟨r,hr,⟨⟨i,v',n'⟩,rfl,hi,hv⟩⟩:=kC (f:=cy (run M) k bA.l2) (Jw L Z) (fun s=>s.i≤L.length∧s.v=v) (fun s=>L.length-s.i) (fun r=>∃s',r=(.exit 4,LX L Z s')∧s'.i=L.length∧s'.v=v)
  (fun s hs=>by
   by_cases c:s.i<L.length
   ·left;obtain⟨n',hh⟩:=H_ K k L Z hL hb s c;exact⟨_,hh,⟨by simp only;omega,hs.2⟩,by simp only;omega⟩
   ·right;obtain⟨n',hh⟩:=Km (M:=M) k L Z s c;have:=hs.1;exact⟨_,hh,by simp,_,rfl,by simp only;omega,hs.2⟩) k ⟨0,v,n⟩ ⟨by simp,rfl⟩ (by simp only;omega)
 simp only at hi hv;subst hi;subst hv;exact⟨n',hr⟩
theorem ln{l:List bz}{g:Int}{b:bz}(h:kV l g=some b):b∈l∧b.gid=g:=⟨List.mem_of_find?_eq_some h,by simpa using List.find?_some h⟩
theorem Bi{a b:List bz}(x:bz)(h:x∈oE a b):x∈a∨x∈b∨∃y∈a,∃z∈b,y.gid=z.gid∧x=ig y z:=by
 rcases List.mem_append.1 h with q|q
 ·obtain⟨y,hy,e⟩:=List.mem_map.1 q;cases hz:kV b y.gid with
  |none=>rw[hz] at e;simp only at e;subst e;exact .inl hy
  |some z=>
   rw[hz] at e;simp only at e;obtain⟨h1,h2⟩:=ln hz;exact .inr (.inr ⟨y,hy,z,h1,h2.symm,e.symm⟩)
 ·exact .inr (.inl (List.mem_filter.1 q).1)
theorem qC(a b:bz):(ig a b).name=a.name∨(ig a b).name=b.name:=by
 unfold ig;split
 ·simp only;split
  ·exact .inr rfl
  ·exact .inl rfl
 ·exact .inl rfl
theorem oC(a b:bz):(ig a b).gid=a.gid:=by unfold ig;split<;>rfl
theorem CN{a b:List bz}(ha:mC a)(hb:mC b)(x:bz)(h:x∈oE a b):x.name.length≤12∧x.gid≤9999:=by
 have hg:∀{c:bz},Good c→c.name.length≤12∧c.gid≤9999:=fun {c} hc=>⟨(mi hc.name).2,hc.gid.2⟩
 rcases Bi x h with q|q|⟨y,hy,z,hz,e,rfl⟩
 ·exact hg (ha.j2 x q)
 ·exact hg (hb.j2 x q)
 ·have h1:=hg (ha.j2 y hy);have h2:=hg (hb.j2 z hz);rw[oC];rcases qC y z with q|q<;>rw[q]
  ·exact h1
  ·exact⟨h2.1,h1.2⟩
theorem Bj(a b:List bz):(oE a b).length≤a.length+b.length:=by
 have:=bV (fun x:bz=>(kV a x.gid).isNone) b;simp only[oE,aC,qG];omega
theorem bA.al(h:bA.k M)(a b:List bz)(G:List Int)(ha:mC a)(hb:mC b)(hG:G.length≤4194304):
  run M 467 [.c (boxes a),.c (boxes b),.c (ints G)] []=some (.c (.sl true 7 ((lf a b G).map af)),[]):=by
 obtain⟨h0,k1,k2,k3,k4,k5,k6,k7,k8,k9,k10⟩:=h;have K:KT M:=⟨k1,k2,k3,k4,k5,k6,k7,k8,k9,k10⟩;have hla:=ha.len;have hlb:=hb.len;refine ao (b:=bA.m) h0 ⟨a.length+b.length+21, ?_⟩;generalize hk:a.length+b.length+21=k;obtain⟨v1,n1,r1⟩:=Ih K k 2000000 a b G ha hb 2000032 2000128 (by omega);obtain⟨v2,n2,r2⟩:=Ic K k 2000000 a b G ha hb v1 (n1+48) (by omega);have hc2:=fun x=>fC.al k5 x G hG
 have hal:=Bj a b;have h5:=aE.al k4 hc2 (oE a b) (by omega);have hkl:((oE a b).filter fun x=> !decide (x.gid∈G)).length≤(oE a b).length:=bV _ _;have hnm:∀x∈fv (fun x:bz=>x.gid) ((oE a b).filter fun x=> !decide (x.gid∈G)),x.name.length≤1048576∧x.gid≤9223372036854775807:=fun x hx=>by
  have:=CN ha hb x (List.mem_filter.1 (qn.1 hx)).1;omega
 unfold lf;generalize hz:List.replicate ((oE a b).length-((oE a b).filter fun x=> !decide (x.gid∈G)).length) rR=Z at*;generalize hl1:((oE a b).filter fun x=> !decide (x.gid∈G))=l1 at*;have h6:=bd.al k6 (k:=fun x:bz=>x.gid) (fB.al k7) l1 Z (by omega);have hl2:(fv (fun x:bz=>x.gid) l1).length=l1.length:=iR _;generalize hs2:fv (fun x:bz=>x.gid) l1=l2 at*;obtain⟨n3,r3⟩:=Ia K k l2 Z (by omega) hnm v2 (n2+64+32+48) (by omega);have el0:((oE a b).map af).length=(oE a b).length:=by simp
 have el1:l1.length≤(l1.map af++Z).length:=by simp
 have el2:l1.length≤(l2.map af++Z).length:=by simp[hl2]
 have el4:l1.length≤((qf l2).map af++Z).length:=by simp[lz,hl2]
 have el5:(((qf l2).map af++Z).take l1.length)=(qf l2).map af:=by
  rw[List.take_append_of_le_length (by simp[lz,hl2])];exact ab (by simp[lz,hl2])
 have hfl:=qG a b;have ea:(a.map af).length=a.length:=by simp
 have eb:(b.map af).length=b.length:=by simp
 have ez:((0:Nat):Int)=0:=rfl;have hfa:(kS a b).take a.length=kS a b:=ab (by omega);simp only[Ii,LZ,ET,List.take_zero,bJ,hfa,ez] at r1;simp only[Ie,LY,ET,Bz,DS,hfl,ez] at r2;have hra:jA l2 l1.length=qf l2:=by rw[←hl2];exact yE l2
 simp only[Jw,LX,wF,ez,hl2,hra] at r3;simp only[sC,eM] at h5 h6;generalize (qf l2).map af=R4 at*;generalize R4++Z=R4Z at*;generalize l2.map af++Z=R2Z at*;generalize l1.map af++Z=R1Z at*;clear hl1 hs2 hz hc2 K hnm hl2 hra;generalize (oE a b).map af=R0 at*;generalize (oE a b).length=N0 at*;generalize (kS a b).map af=RF at*;generalize l1.length=N1 at*;simp only[boxes,ints] at*;generalize a.map af=ra at*;generalize b.map af=rb at*;generalize ax G=rg at*;simp (maxSteps:=9^9) [a8,bA.m,bA.b,aa,r1,r2,r3,h5,h6,ea,eb,el0,el1,el4,el5]
end Mx
