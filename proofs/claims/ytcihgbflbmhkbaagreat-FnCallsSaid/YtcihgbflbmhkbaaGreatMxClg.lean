/-
  What more of the functions compute, each by a small evaluation; no condition beyond what each says.
-/
import Derived.Test.YtcihgbflbmhkbaaGreatMxClf
set_option maxHeartbeats 16000000
set_option linter.unusedSimpArgs false
set_option linter.unusedVariables false
namespace Mx
open Go
variable {M:Nat→Option Body}
def xr(a b c d:UInt8):Nat:=a.toNat*16777216+b.toNat*65536+c.toNat*256+d.toNat
theorem Et(x:Int)(b:UInt8):byteOf x=b↔x%256=b.toNat:=by
 have hb:=b.toNat_lt;unfold byteOf;rw[←UInt8.toNat_inj];rw[UInt8.toNat_ofNat'];omega
theorem IC{x:Int}(h:pH x)(a b c d:UInt8):four x=[a,b,c,d]↔x=xr a b c d:=by
 have ha:=a.toNat_lt;have hb:=b.toNat_lt;have hc:=c.toNat_lt;have hd:=d.toNat_lt;obtain⟨h1,h2⟩:=h;simp only[four,List.cons.injEq,and_true,Et,xr];omega
theorem J9(n k d:Nat)(h:n<2^k):d*2^k|||n=d*2^k+n:=by
 have:=Nat.two_pow_add_eq_or_of_lt (i:=k) (b:=n) h d;rw[Nat.mul_comm d,←this]
theorem J_{m k d n:Nat}(hm:m=2^k)(h:n<m):d*m|||n=d*m+n:=by subst hm;exact J9 n k d h
theorem Jq(a b:Nat):a*16777216+b*65536=(a*256+b)*65536:=by rw[Nat.add_mul,Nat.mul_assoc]
theorem Hd(a b c:Nat):(a*256+b)*65536+c*256=(a*65536+b*256+c)*256:=by simp only[Nat.add_mul,Nat.mul_assoc]
theorem Cf(l:List UInt8)(n n1 n2 n3:Nat)(a b c d:Int)(i0:n<l.length)(i1:n1<l.length)(i2:n2<l.length)(i3:n3<l.length)(ha:(l[n].toNat:Int)=a)(hb:(l[n1].toNat:Int)=b)(hc:(l[n2].toNat:Int)=c)(hd:(l[n3].toNat:Int)=d)
  (w11:IntKind.i64.wrap ((n:Int)+1)=(n1:Int)) (w12:IntKind.i64.wrap ((n:Int)+2)=(n2:Int)) (w13:IntKind.i64.wrap ((n:Int)+3)=(n3:Int)) (va:IntKind.i64.wrap a=a) (vb:IntKind.i64.wrap b=b) (vc:IntKind.i64.wrap c=c) (vd:IntKind.i64.wrap d=d)
  (y1 y2 y3 z1 z2 z3:Int) (sh1:nA .shl .i64 a 24=some (.int .i64 y1)) (sh2:nA .shl .i64 b 16=some (.int .i64 y2)) (sh3:nA .shl .i64 c 8=some (.int .i64 y3))
  (o1:EP .i64 y1 y2=z1) (o2:EP .i64 z1 y3=z2) (o3:EP .i64 z2 d=z3):
  a8 (run M) 0 hQ.m [.c (S l),.c (I n)] []=some (.c (I z3),[]):=by
 simp[a8,hQ.m,hQ.b,aa,jS,i0,i1,i2,i3,ha,hb,hc,hd,w11,w12,w13,va,vb,vc,vd,sh1,sh2,sh3,o1,o2,o3,-nA]
theorem hQ.LC(h:hQ.k M)(l:List UInt8)(n n1 n2 n3:Nat)(m1:n1=n+1)(m2:n2=n+2)(m3:n3=n+3)(i0:n<l.length)(i1:n1<l.length)(i2:n2<l.length)(i3:n3<l.length)(hl:l.length≤4611686018427387904):
  run M 236 [.c (S l),.c (I n)] []=some (.c (I (xr l[n] l[n1] l[n2] l[n3])),[]):=by
 refine ao (b:=hQ.m) h ⟨0, ?_⟩;obtain⟨a,ha⟩:∃b,l[n]=b:=⟨_,rfl⟩
 obtain⟨b,hb⟩:∃b,l[n1]=b:=⟨_,rfl⟩
 obtain⟨c,hc⟩:∃b,l[n2]=b:=⟨_,rfl⟩
 obtain⟨d,hd⟩:∃b,l[n3]=b:=⟨_,rfl⟩
 rw[ha,hb,hc,hd];have ha':=a.toNat_lt;have hb':=b.toNat_lt;have hc':=c.toNat_lt;have hd':=d.toNat_lt;have w11:IntKind.i64.wrap ((n:Int)+1)=(n1:Int):=by rw[wrap_i64 (by omega) (by omega)];omega
 have w12:IntKind.i64.wrap ((n:Int)+2)=(n2:Int):=by rw[wrap_i64 (by omega) (by omega)];omega
 have w13:IntKind.i64.wrap ((n:Int)+3)=(n3:Int):=by rw[wrap_i64 (by omega) (by omega)];omega
 clear m1 m2 m3;have v:∀x:UInt8,IntKind.i64.wrap (x.toNat:Int)=x.toNat:=fun x=>wrap_i64 (by omega) (by have:=x.toNat_lt;omega)
 have s1:IntKind.i64.wrap ((a.toNat:Int)*16777216)=(a.toNat:Int)*16777216:=wrap_i64 (by omega) (by omega);have s2:IntKind.i64.wrap ((b.toNat:Int)*65536)=(b.toNat:Int)*65536:=wrap_i64 (by omega) (by omega);have s3:IntKind.i64.wrap ((c.toNat:Int)*256)=(c.toNat:Int)*256:=wrap_i64 (by omega) (by omega);obtain⟨z1,hz1⟩:∃z:Nat,z=a.toNat*16777216+b.toNat*65536:=⟨_,rfl⟩
 obtain⟨z2,hz2⟩:∃z:Nat,z=z1+c.toNat*256:=⟨_,rfl⟩
 obtain⟨z3,hz3⟩:∃z:Nat,z=z2+d.toNat:=⟨_,rfl⟩
 have o1:EP .i64 ((a.toNat:Int)*16777216) ((b.toNat:Int)*65536)=(z1:Int):=by
  have:=wM (a.toNat*16777216) (b.toNat*65536) (by omega) (by omega);rw[J_ (m:=16777216) (k:=24) (by simp) (by omega),←hz1] at this;rw[show (a.toNat:Int)*16777216=((a.toNat*16777216:Nat):Int) by omega,show (b.toNat:Int)*65536=((b.toNat*65536:Nat):Int) by omega];exact this
 have o2:EP .i64 (z1:Int) ((c.toNat:Int)*256)=(z2:Int):=by
  have:=wM z1 (c.toNat*256) (by omega) (by omega);have e:z1=(a.toNat*256+b.toNat)*65536:=by rw[hz1];exact Jq _ _
  have e2:=J_ (m:=65536) (k:=16) (d:=a.toNat*256+b.toNat) (n:=c.toNat*256) (by simp) (by omega);rw[←e,←hz2] at e2;rw[e2] at this;rw[show (c.toNat:Int)*256=((c.toNat*256:Nat):Int) by omega];exact this
 have o3:EP .i64 (z2:Int) (d.toNat:Int)=(z3:Int):=by
  have:=wM z2 d.toNat (by omega) (by omega);have e:z2=(a.toNat*65536+b.toNat*256+c.toNat)*256:=by rw[hz2,hz1,Jq];exact Hd _ _ _
  have e2:=J_ (m:=256) (k:=8) (d:=a.toNat*65536+b.toNat*256+c.toNat) (n:=d.toNat) (by simp) (by omega);rw[←e,←hz3] at e2;rw[e2] at this;exact this
 have hz:xr a b c d=z3:=by unfold xr;omega
 rw[hz];clear hz hz3 hz2 hz1;have sh1:nA .shl .i64 (a.toNat:Int) 24=some (.int .i64 ((a.toNat:Int)*16777216)):=by simp[IntKind.bits,s1]
 have sh2:nA .shl .i64 (b.toNat:Int) 16=some (.int .i64 ((b.toNat:Int)*65536)):=by simp[IntKind.bits,s2]
 have sh3:nA .shl .i64 (c.toNat:Int) 8=some (.int .i64 ((c.toNat:Int)*256)):=by simp[IntKind.bits,s3]
 clear s1 s2 s3;obtain⟨y1,hy1⟩:∃y:Int,y=(a.toNat:Int)*16777216:=⟨_,rfl⟩
 obtain⟨y2,hy2⟩:∃y:Int,y=(b.toNat:Int)*65536:=⟨_,rfl⟩
 obtain⟨y3,hy3⟩:∃y:Int,y=(c.toNat:Int)*256:=⟨_,rfl⟩
 rw[←hy1] at sh1 o1;rw[←hy2] at sh2 o1;rw[←hy3] at sh3 o2;clear hy1 hy2 hy3;exact Cf l n n1 n2 n3 a.toNat b.toNat c.toNat d.toNat i0 i1 i2 i3 (by rw[ha]) (by rw[hb]) (by rw[hc]) (by rw[hd]) w11 w12 w13 (v a) (v b) (v c) (v d) y1 y2 y3 z1 z2 z3 sh1 sh2 sh3 o1 o2 o3
theorem hQ.al(h:hQ.k M)(l:List UInt8)(n:Nat)(hn:n+4≤l.length)(hl:l.length≤4611686018427387904):
  run M 236 [.c (S l),.c (I n)] []=some (.c (I (xr l[n] l[n+1] l[n+2] l[n+3])),[]):=
 hQ.LC h l n (n+1) (n+2) (n+3) rfl rfl rfl (by omega) (by omega) (by omega) (by omega) hl
def gF(l:List UInt8):List UInt8×Bool:=
 if 4≤l.length∧l.length≤20004∧l.drop (l.length-4)=four (sumOf (l.take (l.length-4))) then(l.take (l.length-4),true) else([],false)
theorem fg.al(h:fg.k M)(l:List UInt8)(hl:l.length≤4611686018427387904):run M 167 [.c (S l)] []=some (.lL [.c (S (gF l).1),.c (.bool (gF l).2)],[]):=by
 have e1:IntKind.i64.wrap ((l.length:Int)-4)=(l.length:Int)-4:=wrap_i64 (by omega) (by omega);refine ao (b:=fg.m) h.1 ⟨0, ?_⟩;by_cases c1:4≤l.length;rotate_left
 ·have d1:(l.length:Int)-4<0:=by omega
  simp[a8,fg.m,fg.b,aa,e1,d1,gF,c1]
 have d1:¬(l.length:Int)-4<0:=by omega
 by_cases c2:l.length≤20004;rotate_left
 ·have d2:20000<(l.length:Int)-4:=by omega
  simp[a8,fg.m,fg.b,aa,e1,d1,d2,gF,c1,c2]
 have d2:¬20000<(l.length:Int)-4:=by omega
 have h1:=ju.al h.2.1 (l.take (l.length-4)) (by simp;omega);have h2:=ie.al h.2.2 (sumOf (l.take (l.length-4)));have e2:((l.length:Int)-4).toNat=l.length-4:=by omega
 have e3:(0:Int)≤(l.length:Int)-4:=by omega
 have e3':(4:Int)≤(l.length:Int):=by omega
 have e4:l.length-4≤l.length:=by omega
 by_cases c3:l.drop (l.length-4)=four (sumOf (l.take (l.length-4)))
 ·simp[a8,fg.m,fg.b,aa,e1,d1,d2,e2,e3',e4,h1,h2,gF,c1,c2,c3]
 ·simp[a8,fg.m,fg.b,aa,e1,d1,d2,e2,e3',e4,h1,h2,gF,c1,c2,c3]
theorem Ei(l:List UInt8)(n:Nat)(h:n+4=l.length):l.drop n=[l[n],l[n+1],l[n+2],l[n+3]]:=by
 apply List.ext_getElem
 ·simp;omega
 ·intro i h1 h2;simp at h2;have:i=0∨i=1∨i=2∨i=3:=by omega
  rcases this with rfl|rfl|rfl|rfl<;>simp
theorem f_.al(h:f_.k M)(l:List UInt8)(hl:l.length≤4611686018427387904):run M 168 [.c (S l)] []=some (.lL [.c (S (gF l).1),.c (.bool (gF l).2)],[]):=by
 obtain⟨h0,k1,k2,k3⟩:=h;have e1:IntKind.i64.wrap ((l.length:Int)-4)=(l.length:Int)-4:=wrap_i64 (by omega) (by omega);have hw:=cj.al k1 ((l.length:Int)-4) 0 20000;refine ao (b:=f_.m) h0 ⟨0, ?_⟩;by_cases c:4≤l.length∧l.length≤20004;rotate_left
 ·have hb:(decide ((0:Int)≤(l.length:Int)-4)&&decide ((l.length:Int)-4≤20000))=false:=by
   rw[Bool.eq_false_iff];intro hh;simp only[ak,decide_eq_true_eq] at hh;omega
  rw[hb] at hw;have:gF l=([],false):=by unfold gF;rw[if_neg (fun q=>c ⟨q.1,q.2.1⟩)]
  simp[a8,f_.m,f_.b,aa,e1,hw,this]
 obtain⟨c1,c2⟩:=c;have hb:(decide ((0:Int)≤(l.length:Int)-4)&&decide ((l.length:Int)-4≤20000))=true:=by
  simp only[ak,decide_eq_true_eq];omega
 rw[hb] at hw;have h1:=jR.al k2 (l.take (l.length-4)) (by simp;omega);have hin:=Fe (l.take (l.length-4));have h2:=hQ.al k3 l (l.length-4) (by omega) hl;rw[show ((l.length-4:Nat):Int)=(l.length:Int)-4 by omega] at h2;have hd:=Ei l (l.length-4) (by omega);have hq:=IC hin (l[l.length-4]'(by omega)) (l[l.length-4+1]'(by omega)) (l[l.length-4+2]'(by omega)) (l[l.length-4+3]'(by omega));rw[←hd] at hq;have e2:((l.length:Int)-4).toNat=l.length-4:=by omega
 have e3:(0:Int)≤(l.length:Int)-4:=by omega
 have e3':(4:Int)≤(l.length:Int):=by omega
 have e4:l.length-4≤l.length:=by omega
 have e5:IntKind.i64.wrap (sumOf (l.take (l.length-4)))=sumOf (l.take (l.length-4)):=wrap_i64 (by have:=hin.1;omega) (by have:=hin.2;omega);unfold gF;generalize xr (l[l.length-4]'(by omega)) (l[l.length-4+1]'(by omega)) (l[l.length-4+2]'(by omega)) (l[l.length-4+3]'(by omega))=z at h2 hq;by_cases c3:l.drop (l.length-4)=four (sumOf (l.take (l.length-4)))
 ·have c4:=hq.1 c3.symm;have e6:IntKind.i64.wrap (z:Int)=z:=by rw[c4] at e5;exact e5
  rw[if_pos ⟨c1,c2,c3⟩];simp[a8,f_.m,f_.b,aa,e1,hw,e2,e3',e4,h1,h2,c4,e6]
 ·have c4:¬sumOf (l.take (l.length-4))=z:=fun q=>c3 (hq.2 q).symm
  rw[if_neg (fun q=>c3 q.2.2)];simp[a8,f_.m,f_.b,aa,e1,hw,e2,e3',e4,h1,h2,e5,c4]
theorem uu(l:List UInt8)(a:Nat):∀d k n r,mM l a d k n=some r→r.2.2=true→a<r.2.1∧r.2.1≤l.length∧iK r.1=(l.drop a).take (r.2.1-a)
 |0,k,n,r,h=>by simp[mM] at h
 |d+1,k,n,r,hr=>by
  intro hq;rw[mM] at hr;by_cases h:a+k<l.length
  ·rw[dif_pos h] at hr;split at hr
   ·simp only[aK] at hr;subst hr;split at hq
    ·rename_i hc;rw[if_pos hc];refine⟨by simp only;omega,by simp only;omega, ?_⟩;simp only;rw[hc.2];congr 1;omega
    ·cases hq
   ·exact uu l a d (k+1) _ r hr hq
  ·rw[dif_neg h] at hr;cases hr
theorem zr(l:List UInt8)(a:Int)(h:(gT l a).2.2=true):∃m:Nat,a=m∧m<(gT l a).2.1∧(gT l a).2.1≤l.length∧(l.take (gT l a).2.1).drop m=kR (gT l a).1∧(gT l a).1.length≤20000:=by
 unfold gT at h ⊢;split at h
 ·rename_i hc;rw[if_pos hc];obtain⟨c1,c2,c3⟩:=hc;simp only;unfold fS at c1 c2 c3 ⊢;split at c1
  ·rename_i hr;rw[if_pos hr] at c2 c3 ⊢;obtain⟨m,rfl⟩:=hH hr.1;simp only[eS] at c1 c2 c3 ⊢;cases hg:mM l m 5 0 0 with
   |none=>rw[hg] at c1;cases c1
   |some r=>
    rw[hg] at c1 c2 c3;simp only[jl] at c1 c2 c3 ⊢;obtain⟨q1,q2,q3⟩:=uu l m 5 0 0 r hg c1;refine⟨m,rfl,by omega,by omega, ?_,by simp;omega⟩;have hlen:((l.drop r.2.1).take r.1).length=r.1:=by simp;omega
    unfold kR;rw[hlen,q3,List.drop_take];have e1:r.2.1+r.1-m=(r.2.1-m)+r.1:=by omega
    rw[e1,List.take_add,List.drop_drop];congr 3;omega
  ·cases c1
 ·cases h
def nv(l:List UInt8)(c c':iX)(t:List UInt8):Prop:=c'.2=false→c.2=false∧c.1≤c'.1∧(t=[]∧c'.1=c.1∨0≤c.1∧c'.1≤l.length∧(l.take c'.1.toNat).drop c.1.toNat=t)
theorem nv.refl(l:List UInt8)(c:iX):nv l c c []:=fun h=>⟨h,Int.le_refl _,.inl ⟨rfl,rfl⟩⟩
theorem wm(l:List UInt8){m e f:Nat}(h:m≤e)(k:e≤f):(l.take e).drop m++(l.take f).drop e=(l.take f).drop m:=by
 have h1:(l.take f).take e=l.take e:=by rw[List.take_take,Nat.min_eq_left k]
 rw[←h1];generalize l.take f=x;rw[←dm e (x.drop m)];by_cases he:e≤x.length
 ·have:(x.drop m)=(x.take e).drop m++x.drop e:=by
   conv=>lhs;rw[←dm e x]
   rw[List.drop_append_of_le_length (by simp;omega)]
  rw[dm,this]
 ·rw[dm,ab (by omega),eK (by omega:x.length≤e),eM]
theorem nv.trans{l:List UInt8}{c d e:iX}{t u:List UInt8}(h:nv l c d t)(k:nv l d e u):nv l c e (t++u):=by
 intro he;obtain⟨hd,k1,k2⟩:=k he;obtain⟨hc,h1,h2⟩:=h hd;refine⟨hc,by omega, ?_⟩;rcases h2 with⟨rfl,h2⟩|⟨h2,h3,h4⟩
 ·rcases k2 with⟨rfl,k2⟩|⟨k2,k3,k4⟩
  ·exact .inl ⟨rfl,by omega⟩
  ·right;rw[h2] at k4 k2;exact⟨k2,k3,by simpa using k4⟩
 ·right;rcases k2 with⟨rfl,k2⟩|⟨k2,k3,k4⟩
  ·rw[k2];exact⟨h2,h3,by simpa using h4⟩
  ·refine⟨h2,k3, ?_⟩;rw[←h4,←k4,wm l (by omega) (by omega)]
theorem nv.bad{l:List UInt8}{c d:iX}{t:List UInt8}(h:nv l c d t)(hc:c.2=true):d.2=true:=by
 cases hd:d.2 with
 |true=>rfl
 |false=>rw[(h hd).1] at hc;cases hc
theorem zq(l:List UInt8)(a:Int)(h:(fS l a).2.2=true):0≤a∧(l.take (fS l a).2.1).drop a.toNat=iK (fS l a).1:=by
 obtain⟨h1,h2,h3⟩:=pa l a;have h4:=h3 h;refine⟨h4.1, ?_⟩;unfold fS at h ⊢;split at h
 ·rename_i hr;rw[if_pos hr];cases hg:mM l a.toNat 5 0 0 with
  |none=>rw[hg] at h;cases h
  |some r=>
   rw[hg] at h;simp only[jl] at h ⊢;obtain⟨q1,q2,q3⟩:=uu l a.toNat 5 0 0 r hg h;rw[q3,List.drop_take]
 ·cases h
theorem jG(l:List UInt8)(c:iX):nv l c (cvar l c).2 (dE (cvar l c).1):=by
 intro h;unfold cvar at h ⊢;split at h
 ·cases h
 ·rename_i hn;rw[if_neg hn];rw[not_or] at hn;have h1:(fS l c.1).2.2=true:=by simpa using hn.2
  obtain⟨h2,h3,h4⟩:=pa l c.1;have h5:=h4 h1;obtain⟨h6,h7⟩:=zq l c.1 h1;refine⟨by simpa using hn.1,by simp only;omega,.inr ⟨h6,by simp only;omega, ?_⟩⟩;simp only[dE,eS];exact h7
theorem qI(l:List UInt8)(c:iX):nv l c (g_ l c).2 (kR (g_ l c).1):=by
 intro h;unfold g_ at h ⊢;split at h
 ·cases h
 ·rename_i hn;rw[if_neg hn];rw[not_or] at hn;have h1:(gT l c.1).2.2=true:=by simpa using hn.2
  obtain⟨m,h2,h3,h4,h5,h6⟩:=zr l c.1 h1;refine⟨by simpa using hn.1,by simp only;omega,.inr ⟨by omega,by simp only;omega, ?_⟩⟩;have h7:c.1.toNat=m:=by omega
  simp only[h7,eS];exact h5
theorem tY(l:List UInt8)(c:iX):nv l c (mc l c).2 (dE (mc l c).1.1++dE (mc l c).1.2):=(jG l c).trans (jG l _)
theorem rO(l:List UInt8)(most:Int)(c:iX):nv l c (jM l most c).2 (dE (jM l most c).1):=by
 intro h;unfold jM at h ⊢;split at h
 ·cases h
 ·rename_i hn;rw[if_neg hn];exact jG l c h
theorem pk{α:Type}{l:List UInt8}{p:iX→α×iX}{t:α→List UInt8}(hp:∀c,nv l c (p c).2 (t (p c).1)):∀n c,nv l c (lp p n c).2 (texts t (lp p n c).1)
 |0,c=>nv.refl l c
 |n+1,c=>by
  have:=(hp c).trans (pk hp n (p c).2);simpa [lp,texts] using this
theorem rM(l:List UInt8)(most:Int)(c:iX):nv l c (nX l most c).2 (iK (nX l most c).1.length++texts dE (nX l most c).1):=by
 have h:=(rO l most c).trans (pk (jG l) (jM l most c).1.toNat (jM l most c).2);have hn:=p8 l most c;unfold nX;rw[lH];exact h
theorem Cr(l:List UInt8)(c:iX):nv l c (sA l c).2 (vO (sA l c).1):=by
 have:=(jG l c).trans (tY l (cvar l c).2);simpa [sA,vO,texts] using this
theorem vB(l:List UInt8)(c:iX):nv l c (jC l c).2 (oa (jC l c).1):=by
 have h1:=((jG l c).trans (jG l (cvar l c).2)).trans (pk (Cr l) 3 (cvar l (cvar l c).2).2);have:=h1.trans (qI l _);simp only[jC,oa];simpa [texts] using this
theorem A5(l:List UInt8)(c:iX):nv l c (lj l c).2 (dE (lj l c).1.gid++(kR (lj l c).1.name++(dE (lj l c).1.time++(dE (lj l c).1.eD++dE (lj l c).1.next)))):=by
 have h1:=(((jG l c).trans (qI l _)).trans (tY l _)).trans (jG l (mc l (g_ l (cvar l c).2).2).2);simpa [lj] using h1
theorem xJ(l:List UInt8)(c:iX):nv l c (ll l c).2 (sB (ll l c).1):=by
 have h1:=((A5 l c).trans (rO l 10 _)).trans ((pk (vB l) (jM l 10 (lj l c).2).1.toNat (jM l 10 (lj l c).2).2).trans (rM l 40 _));have hn:=lH (jC l) (jM l 10 (lj l c).2).1.toNat (jM l 10 (lj l c).2).2;simp only[sB,xO,ll,hn];simpa [kR,dE] using h1
def nu{α:Type}(p:iX→α×iX):Nat→iX→List α×iX
 |0,c=>([],c)
 |n+1,c=>if c.2=true then([],c) else((p c).1::(nu p n (p c).2).1,(nu p n (p c).2).2)
theorem lI{α:Type}{p:iX→α×iX}(hp:∀c,c.2=true→(p c).2.2=true):∀n c,c.2=true→(lp p n c).2.2=true
 |0,c,h=>h
 |n+1,c,h=>lI hp n _ (hp c h)
theorem uI{α:Type}{p:iX→α×iX}(hp:∀c,c.2=true→(p c).2.2=true):∀n c,nu p n c=lp p n c∨(nu p n c).2.2=true∧(lp p n c).2.2=true
 |0,c=> .inl rfl
 |n+1,c=>by
  simp only[nu];split
  ·rename_i h;exact .inr ⟨h,lI hp (n+1) c h⟩
  ·rcases uI hp n (p c).2 with h|h
   ·left;rw[h];rfl
   ·exact .inr h
theorem so{α:Type}{p:iX→α×iX}(n:Nat)(c:iX)(h:c.2=true):nu p n c=([],c):=by
 cases n with
 |zero=>rfl
 |succ n=>simp[nu,h]
theorem Er{α:Type}{p:iX→α×iX}(hp:∀c,c.2=true→(p c).2.2=true):∀n c,(nu p n c).2.2=false→(nu p n c).1.length=n:=by
 intro n c h;rcases uI hp n c with q|q
 ·rw[q,lH]
 ·rw[q.1] at h;cases h
theorem DP{α β γ:Type}(n:Nat)(p:iX→α×iX){f:St→Option (Out×St)}(S:Nat→List α→iX→β→St)(e:Nat)(E:List α→iX→γ→St)
  (h1:∀i,i<n→∀acc c x,acc.length=i→c.2=false→∃y,f (S i acc c x)=some (.normal,S (i+1) (acc++[(p c).1]) (p c).2 y))
  (h2:∀i,i<n→∀acc c x,acc.length=i→c.2=true→∃y,f (S i acc c x)=some (.exit e,E acc c y))
  (h3:∀acc c x,acc.length=n→∃y,f (S n acc c x)=some (.exit e,E acc c y)) (c:iX):
  ∃g:β→γ,∀x,fi f (n+1) (S 0 [] c x)=some (.exit e,E (nu p n c).1 (nu p n c).2 (g x)):=by
 have:=jP (f:=f) (fun s:Nat×List α×iX=>S s.1 s.2.1 s.2.2) (fun s=>s.1≤n∧s.2.1.length=s.1) (fun s=>n-s.1) (fun s=>(s.2.1++(nu p (n-s.1) s.2.2).1,(nu p (n-s.1) s.2.2).2)) (fun q m=>(.exit e,E q.1 q.2 m)) ?_ (n+1) (0,[],c) ⟨Nat.zero_le _,rfl⟩ (by simp)
 ·simpa using this
 rintro ⟨i,acc,c⟩ x ⟨hi,ha⟩;simp only at hi ha;by_cases hlt:i<n
 ·cases hc:c.2
  ·left;obtain⟨y,hy⟩:=h1 i hlt acc c x ha hc;refine⟨(i+1,acc++[(p c).1],(p c).2),y,hy,⟨hlt,by simp[ha]⟩,by simp only;omega, ?_⟩;simp only;rw[show n-i=(n-(i+1))+1 by omega];simp[nu,hc]
  ·right;obtain⟨y,hy⟩:=h2 i hlt acc c x ha hc;exact⟨y,by simp[hy,so _ _ hc],by simp⟩
 ·have:i=n:=by omega
  subst this;right;obtain⟨y,hy⟩:=h3 acc c x ha;exact⟨y,by simp[hy,nu],by simp⟩
def mz(l:List UInt8)(most:Nat)(c:iX):List Int×iX:=nu (cvar l) (Min.min (cvar l c).1.toNat (most+1)) (cvar l c).2
def Ky(l:List UInt8)(most n:Nat)(i:Nat)(acc:List Int)(c:iX)(x:Nat×Nat):St:={t:=[(0,.c p6),(1,.c (I most)),(5,.c (I n)),(6,.c (.row 10 x.1 0 i)),(7,.c (I i))],o:=[(0,mX 0 l c),(10,⟨x.1,1,true,false,ax acc⟩)],n:=x.2}
def Lj(l:List UInt8)(most n:Nat)(acc:List Int)(c:iX)(x:Nat×Nat):St:={t:=[(0,.c p6),(1,.c (I most)),(5,.c (I n)),(6,.c (.row 10 x.1 0 acc.length)),(7,.c (I acc.length)),(25,.c (.bool false))],o:=[(0,mX 0 l c),(10,⟨x.1,1,true,false,ax acc⟩)],n:=x.2}
theorem ev.al(h:ev.k M)(l:List UInt8)(hl:l.length≤4611686018427387904)(most:Nat)(hm:most≤1000)(c:iX):
  run M 142 [.c p6,.c (I most)] [(0,mX 0 l c)]=some (.c (.sl true 1 (ax (mz l most c).1)),[(0,mX 0 l (mz l most c).2)]):=by
 obtain⟨h0,k1⟩:=h;have h1:=cq.al k1 l hl c;have hn:=oT l c;unfold mz;generalize cvar l c=q at*;obtain⟨n,c1⟩:=q;simp only at hn ⊢;obtain⟨n,rfl⟩:=hH hn.1;simp only[eS];generalize hd:Min.min n (most+1)=d;have hd1:d≤n:=by omega
 have hd2:d≤most+1:=by omega
 have hd3:d=n∨d=most+1:=by omega
 refine ao (b:=ev.m) h0 ⟨d+1, ?_⟩;obtain⟨g,hr⟩:=DP (f:=cy (run M) (d+1) ev.l0) d (cvar l) (Ky l most n) 0 (Lj l most n)
  (fun i hi acc c x ha hc=>by
   obtain⟨v,x⟩:=x;have h2:=cq.al k1 l hl c;have e5:=cz (i:=i) (by omega);have e6:i+1≤4294967296:=by omega
   have h3:(i:Int)<n:=by omega
   have h4:(i:Int)≤most:=by omega
   have h4':i≤most:=by omega
   have h3':i<n:=by omega
   obtain⟨ca,cb⟩:=c;simp only at hc;subst hc;simp only[aH];simp (maxSteps:=9^9) [ev.l0,Ky,h3,h4,h2,e5,e6,ha,ax,ab])
  (fun i hi acc c x ha hc=>by
   obtain⟨v,x⟩:=x;have h3:i<n:=by omega
   have h4:i≤most:=by omega
   obtain⟨ca,cb⟩:=c;simp only at hc;subst hc;simp only[aH];simp (maxSteps:=9^9) [ev.l0,Ky,Lj,h3,h4,ha])
  (fun acc c x ha=>by
   obtain⟨v,x⟩:=x;simp only[aH];rcases hd3 with h3|h3
   ·have h4:¬d<n:=by omega
    simp (maxSteps:=9^9) [ev.l0,Ky,Lj,h4,ha]
   ·have h4:¬d≤most:=by omega
    by_cases h5:d<n
    ·simp (maxSteps:=9^9) [ev.l0,Ky,Lj,h4,h5,ha]
    ·simp (maxSteps:=9^9) [ev.l0,Ky,Lj,h5,ha]) c1
 have hlen:(nu (cvar l) d c1).1.length≤(nu (cvar l) d c1).1.length:=Nat.le_refl _;simp[Ky,Lj,ax] at hr;simp (maxSteps:=9^9) [a8,ev.m,ev.b,aa,h1,hr,ax,ab]
theorem cq.at(h:cq.k M)(l:List UInt8)(hl:l.length≤4611686018427387904)(a:Int)(b:Bool):
  run M 139 [.c p6] [(0,⟨0,3,true,true,[[S l,I a,.bool b]]⟩)]=some (.c (I (cvar l (a,b)).1),[(0,mX 0 l (cvar l (a,b)).2)]):=cq.al h l hl (a,b)
theorem bS.at(h:bS.k M)(l:List UInt8)(hl:l.length≤4611686018427387904)(a:Int)(b:Bool):
  run M 152 [.c p6] [(0,⟨0,3,true,true,[[S l,I a,.bool b]]⟩)]=some (.c (I (cvar l (a,b)).1),[(0,mX 0 l (cvar l (a,b)).2)]):=bS.al h l hl (a,b)
def AH:bp:=⟨0,0,[],[]⟩
def rA(l:List UInt8)(a:Int):bp×Int×Bool:=if(jC l (a,false)).2.2=false∧iY (jC l (a,false)).1=true then((jC l (a,false)).1,(jC l (a,false)).2.1,true) else(AH,0,false)
def LD(l:List UInt8)(g u:Int)(i:Nat)(acc:List mB)(c:iX)(x:kO):St:={t:=[(4,.c (.ptr 4 x.a 0 0)),(7,.c (.ptr 14 2000096 0 0)),(8,.c (.ptr 8 x.b 0 0)),(9,.c (I i))],o:=[(4,⟨x.a,4,true,true,[sK]⟩),(8,⟨x.b,4,true,true,[[I g,I u,if i=0 then .aO 3 else .row 40 x.c 0 i,.str ⟨#[]⟩]]⟩),(14,mX 2000096 l c)]++if i=0 then [] else [(40,⟨x.c,3,true,false,acc.map aF⟩)],n:=x.d}
def Na(l:List UInt8)(g u:Int)(acc:List mB)(c:iX)(x:kO):St:={t:=[(4,.c (.ptr 4 x.a 0 0)),(7,.c (.ptr 14 2000096 0 0)),(8,.c (.ptr 8 x.b 0 0)),(9,.c (I 3)),(22,.c (.bool false))],o:=[(4,⟨x.a,4,true,true,[sK]⟩),(8,⟨x.b,4,true,true,[[I g,I u,.row 40 x.c 0 3,.str ⟨#[]⟩]]⟩),(14,mX 2000096 l c),(40,⟨x.c,3,true,false,acc.map aF⟩)],n:=x.d}
theorem dx.al(h:dx.k M)(l:List UInt8)(hl:l.length≤4611686018427387904)(a:Int):
  run M 141 [.c (S l),.c (I a)] []=some (.lL [.a (iW (rA l a).1),.c (I (rA l a).2.1),.c (.bool (rA l a).2.2)],[]):=by
 obtain⟨h0,k1,k2,k3⟩:=h;have h1:=cq.at k1 l hl a false;have h2:=cq.al k1 l hl (cvar l (a,false)).2;refine ao (b:=dx.m) h0 ⟨4, ?_⟩;obtain⟨g,hr⟩:=ry (f:=cy (run M) 4 dx.l0) 3 (sA l) (LD l (cvar l (a,false)).1 (cvar l (cvar l (a,false)).2).1) 0 (Na l (cvar l (a,false)).1 (cvar l (cvar l (a,false)).2).1)
  (fun i hi acc c x ha=>by
   obtain⟨v,w,z,x⟩:=x;have h2:=cq.al k1 l hl c;have h3:=cq.al k1 l hl (cvar l c).2;have h4:=cq.al k1 l hl (cvar l (cvar l c).2).2;simp only[kO.ex];cases i with
   |zero=>
    have:acc=[]:=ba ha;subst this;simp (maxSteps:=9^9) [dx.l0,setAt,LD,h2,h3,h4,wrap_one,aF,sA,mc]
   |succ i=>
    have e5:IntKind.i64.wrap ((i:Int)+1+1)=(i:Int)+1+1:=wrap_i64 (by omega) (by omega);have e6:i+1+1≤4294967296:=by omega
    have e7:(i:Int)+1<3:=by omega
    simp (maxSteps:=9^9) [dx.l0,setAt,LD,e7,h2,h3,h4,e5,e6,ha,aF,sA,mc,ab])
  (fun acc c x ha=>by
   obtain⟨v,w,z,x⟩:=x;simp only[kO.ex];simp (maxSteps:=9^9) [dx.l0,LD,Na]) (cvar l (cvar l (a,false)).2).2
 have hlen:=lH (sA l) 3 (cvar l (cvar l (a,false)).2).2;have h4:=fZ.al k2 l hl (lp (sA l) 3 (cvar l (cvar l (a,false)).2).2).2;have h5:=dX.al k3 (jC l (a,false)).1 (by simp[jC,lH]);obtain⟨q,hq⟩:∃q,lp (sA l) 3 (cvar l (cvar l (a,false)).2).2=q:=⟨_,rfl⟩
 have e:jC l (a,false)=(⟨(cvar l (a,false)).1,(cvar l (cvar l (a,false)).2).1,q.1,(g_ l q.2).1⟩,(g_ l q.2).2):=by rw[←hq];rfl
 rw[hq] at hr hlen h4;rw[e] at h5;unfold rA;rw[e]
 replace hr:=fun a b d=>hr ⟨a,b,0,d⟩
 simp[LD,Na] at hr;simp only[ah] at h5;generalize g_ l q.2=r at*;cases c1:r.2.2
 ·generalize iY _=ok at*;cases ok<;>simp (maxSteps:=9^9) [a8,dx.m,dx.b,aa,setAt,h1,h2,h4,h5,hr,hlen,c1,AH,ab]
 ·simp (maxSteps:=9^9) [a8,dx.m,dx.b,aa,setAt,h1,h2,h4,hr,c1,AH,ab]
def p7(l:List UInt8):Nat→iX→Option (List bp×iX)
 |0,c=>some ([],c)
 |d+1,c=>if(jC l c).2.2=false∧iY (jC l c).1=true then(p7 l d (jC l c).2).map fun r=>((jC l c).1::r.1,r.2) else none
def yi:bz:=⟨0,[],0,0,0,[],[]⟩
def r7(l:List UInt8)(a:Int):bz×Int×Bool:=if(ll l (a,false)).2.2=false∧fQ (ll l (a,false)).1=true then((ll l (a,false)).1,(ll l (a,false)).2.1,true) else(yi,0,false)
def Ar(l:List UInt8)(c:iX):Option (bz×iX):=
 let h:=lj l c
 let k:=cvar l h.2
 (p7 l (Min.min k.1.toNat 11) k.2).map fun ms=>({h.1 with ae:=ms.1,gone:=(mz l 40 ms.2).1},(mz l 40 ms.2).2)
theorem o7(l:List UInt8)(c:iX)(h:c.2=true):(jC l c).2.2=true:=(vB l c).bad h
theorem o6(l:List UInt8)(c:iX)(h:c.2=true):(cvar l c).2.2=true:=(jG l c).bad h
theorem uJ{l:List UInt8}:∀{d:Nat} {c:iX} {r:List bp×iX},p7 l d c=some r→lp (jC l) d c=r∧(∀m∈r.1,iY m=true)∧(c.2=false→r.2.2=false)∧r.1.length=d
 |0,c,r,h=>by simp[p7] at h;subst h;simp[lp]
 |d+1,c,r,h=>by
  simp only[p7] at h;split at h
  ·rename_i hc;simp only[aq] at h;obtain⟨q,hq,rfl⟩:=h;obtain⟨h1,h2,h3,h4⟩:=uJ hq;refine⟨by simp[lp,h1], ?_,fun _=>h3 hc.1,by simp[h4]⟩;intro m hm;rcases List.mem_cons.1 hm with rfl|hm
   ·exact hc.2
   ·exact h2 m hm
  ·cases h
theorem yW{l:List UInt8}:∀{d:Nat} {c:iX},p7 l d c=none→(lp (jC l) d c).2.2=true∨∃m∈(lp (jC l) d c).1,iY m=false
 |0,c,h=>by simp[p7] at h
 |d+1,c,h=>by
  simp only[p7] at h;split at h
  ·rename_i hc;simp only[Option.map_eq_none_iff] at h;rcases yW h with h1|⟨m,h1,h2⟩
   ·exact .inl h1
   ·exact .inr ⟨m,bq _ h1,h2⟩
  ·rename_i hc;cases h1:(jC l c).2.2
   ·right;refine⟨_,bh .., ?_⟩;cases h2:iY (jC l c).1
    ·rfl
    ·exact(hc ⟨h1,h2⟩).elim
   ·left;exact lI (o7 l) d _ h1
theorem uL{b:bz}(h:(10<b.ae.length∨40<b.gone.length)∨∃m∈b.ae,iY m=false):fQ b=false:=by
 cases hb:fQ b
 ·rfl
 ·obtain⟨h1,h2,h3,h4,h5,h6,h7,h8,h9⟩:=jT hb;rcases h with (h|h)|⟨m,hm,h⟩
  ·omega
  ·omega
  ·rw[h9 m hm] at h;cases h
theorem mF(l:List UInt8)(most:Int)(c:iX)(h:c.2=true):(nX l most c).2.2=true:=(rM l most c).bad h
theorem xI(l:List UInt8)(most:Nat)(c:iX):((mz l most c).2.2=true∨most<(mz l most c).1.length)∧(nX l most c).2.2=true∨mz l most c=nX l most c:=by
 have hn:=oT l c;unfold mz nX jM;by_cases h1:(cvar l c).2.2=true
 ·left;rw[if_pos (.inr h1)];simp only[Int.toNat_zero,lp,and_true];left;rw[so _ _ h1];exact h1
 ·by_cases h2:(most:Int)<(cvar l c).1
  ·left;rw[if_pos (.inl h2)];simp only[Int.toNat_zero,lp,and_true];rw[show Min.min (cvar l c).1.toNat (most+1)=most+1 by omega];cases h3:(nu (cvar l) (most+1) (cvar l c).2).2.2
   ·right;rw[Er (o6 l) _ _ h3];omega
   ·exact .inl rfl
  ·rw[if_neg (by rw[not_or];exact⟨h2,h1⟩)];rw[show Min.min (cvar l c).1.toNat (most+1)=(cvar l c).1.toNat by omega];rcases uI (o6 l) (cvar l c).1.toNat (cvar l c).2 with h|h
   ·exact .inr h
   ·exact .inl ⟨.inl h.1,h.2⟩
theorem Aq{l:List UInt8}{c:iX}{r:bz×iX}(hr:Ar l c=some r):ll l c=r∨(r.2.2=true∨fQ r.1=false)∧(ll l c).2.2=true:=by
 have hn:=oT l (lj l c).2;simp only[Ar,aq] at hr;obtain⟨ms,hms,rfl⟩:=hr;obtain⟨h1,h2,h3,h4⟩:=uJ hms;simp only[ll,jM];by_cases hb:(cvar l (lj l c).2).2.2=true
 ·right;rw[if_pos (.inr hb)];have hms2:ms.2.2=true:=by rw[←h1];exact lI (o7 l) _ _ hb
  refine⟨.inl ?_, ?_⟩
  ·simp only[mz];rw[so _ _ (o6 l _ hms2)];exact o6 l _ hms2
  ·exact mF l _ _ (lI (o7 l) _ _ rfl)
 ·by_cases ht:10<(cvar l (lj l c).2).1
  ·right;rw[if_pos (.inl ht)];refine⟨.inr (uL (.inl (.inl ?_))),mF l _ _ (lI (o7 l) _ _ rfl)⟩;simp only[h4];omega
  ·rw[if_neg (by rw[not_or];exact⟨ht,hb⟩)];rw[show Min.min (cvar l (lj l c).2).1.toNat 11=(cvar l (lj l c).2).1.toNat by omega] at h1;rw[h1];rcases xI l 40 ms.2 with⟨q1,q2⟩|q
   ·right;refine⟨?_,q2⟩;rcases q1 with q1|q1
    ·exact .inl q1
    ·exact .inr (uL (.inl (.inr q1)))
   ·left;rw[q];rfl
theorem Fo(l:List UInt8)(c:iX):(match Ar l c with|some r=>r.2.2=false∧fQ r.1=true|none=>False)↔(ll l c).2.2=false∧fQ (ll l c).1=true:=by
 have hn:=oT l (lj l c).2;cases hs:Ar l c with
 |some r=>
  simp only;rcases Aq hs with h|⟨h1,h2⟩
  ·rw[h]
  ·constructor
   ·rintro ⟨h3,h4⟩;rcases h1 with h1|h1
    ·rw[h1] at h3;cases h3
    ·rw[h1] at h4;cases h4
   ·rintro ⟨h3,_⟩;rw[h2] at h3;cases h3
 |none=>
  simp only[false_iff];rintro ⟨h3,h4⟩;simp only[Ar,Option.map_eq_none_iff] at hs;have hk:=yW hs;simp only[ll,jM] at h3 h4;by_cases hb:(cvar l (lj l c).2).2.2=true
  ·rw[if_pos (.inr hb)] at h3;rw[mF l _ _ (lI (o7 l) _ _ rfl)] at h3;cases h3
  ·by_cases ht:10<(cvar l (lj l c).2).1
   ·rw[if_pos (.inl ht)] at h3;rw[mF l _ _ (lI (o7 l) _ _ rfl)] at h3;cases h3
   ·rw[if_neg (by rw[not_or];exact⟨ht,hb⟩)] at h3 h4;rw[show Min.min (cvar l (lj l c).2).1.toNat 11=(cvar l (lj l c).2).1.toNat by omega] at hk;rcases hk with hk|⟨m,hm,hk⟩
    ·rw[mF l _ _ hk] at h3;cases h3
    ·rw[uL (.inr ⟨m,hm,hk⟩)] at h4;cases h4
theorem D5(l:List UInt8)(a:Int):r7 l a=match Ar l (a,false) with
  |some r=>if r.2.2=false∧fQ r.1=true then(r.1,r.2.1,true) else(yi,0,false)
  |none=>(yi,0,false):=by
 have h:=Fo l (a,false);unfold r7;cases hs:Ar l (a,false) with
 |none=>
  rw[hs] at h;simp only[false_iff] at h;rw[if_neg h]
 |some r=>
  rw[hs] at h;simp only at h ⊢;by_cases c:r.2.2=false∧fQ r.1=true
  ·rw[if_pos c,if_pos (h.1 c)];rcases Aq hs with q|⟨q1,q2⟩
   ·rw[q]
   ·rw[(h.1 c).1] at q2;cases q2
  ·rw[if_neg c,if_neg fun k=>c (h.2 k)]
def D6(b:bz)(i:Nat)(acc:List bp)(l:List UInt8)(c:iX)(x:kO):List (Nat×Ob):=[(4,⟨x.a,7,true,true,[rR]⟩),(8,⟨x.b,7,true,true,[[I b.gid,S b.name,I b.time,I b.eD,I b.next,if i=0 then .aO 4 else .row 70 x.c 0 i,.aO 1]]⟩),(17,mX 2000096 l c)]++if i=0 then [] else [(70,⟨x.c,4,true,false,acc.map ah⟩)]
def Az(l:List UInt8)(b:bz)(n i:Nat)(acc:List bp)(c:iX)(x:kO):St:={t:=[(0,.c (S l)),(4,.c (.ptr 4 x.a 0 0)),(7,.c (.ptr 17 2000096 0 0)),(8,.c (.ptr 8 x.b 0 0)),(9,.c (I n)),(10,.c (I i))],o:=D6 b i acc l c x,n:=x.d}
def J8(l:List UInt8)(b:bz)(n i:Nat)(acc:List bp)(c:iX)(x:kO):St:={t:=[(0,.c (S l)),(4,.c (.ptr 4 x.a 0 0)),(7,.c (.ptr 17 2000096 0 0)),(8,.c (.ptr 8 x.b 0 0)),(9,.c (I n)),(10,.c (I i)),(50,.c (.bool false))],o:=D6 b i acc l c x,n:=x.d}
def BX(l:List UInt8)(b:bz)(n:Nat)(q:Option (List bp×iX))(m:kO×List (Nat×Ob)):Out×St:=match q with
 |none=>(.ret,{t:=[(4,.c (.ptr 4 m.1.a 0 0)),(5,.c (I 0)),(6,.c (.bool false))],o:=(4,⟨m.1.a,7,true,true,[rR]⟩)::m.2,n:=m.1.d})
 |some r=>(.exit 0,J8 l b n r.1.length r.1 r.2 m.1)
theorem Fz(l:List UInt8)(b:bz)(n:Nat)(q:Option (List bp×iX))(m:kO×List (Nat×Ob)):(BX l b n q m).1≠.normal:=by cases q<;>simp[BX]
theorem bR.loop(k5:dx.k M)(l:List UInt8)(hl:l.length≤4611686018427387904)(b:bz)(n D:Nat)(hD:Min.min n 11=D)(c:iX)(hc:0<D→c.2=false):
  ∃g:kO→kO×List (Nat×Ob),∀x,fi (cy (run M) (D+1) bR.l0) (D+1) (Az l b n 0 [] c x)=some (BX l b n (p7 l D c) (g x)):=by
 have:=jP (f:=cy (run M) (D+1) bR.l0) (fun s:Nat×List bp×iX=>Az l b n s.1 s.2.1 s.2.2) (fun s=>s.1≤D∧s.2.1.length=s.1∧(s.1<D→s.2.2.2=false)) (fun s=>D-s.1)
  (fun s=>(p7 l (D-s.1) s.2.2).map fun r=>(s.2.1++r.1,r.2)) (BX l b n) ?_ (D+1) (0,[],c) ⟨Nat.zero_le _,rfl,hc⟩ (by simp)
 ·simpa using this
 rintro ⟨i,acc,c⟩ x ⟨hi,ha,hc⟩;simp only at hi ha hc;by_cases hlt:i<D
 ·have hc:=hc hlt;obtain⟨ca,cb⟩:=c;simp only at hc;subst hc;have h2:=dx.al k5 l hl ca;have h3:i<n:=by omega
  have h4:i≤10:=by omega
  have h3':(i:Int)<n:=by omega
  have h4':(i:Int)≤10:=by omega
  have hd:D-i=(D-(i+1))+1:=by omega
  obtain⟨xa,xb,xc,xd⟩:=x;unfold rA at h2;by_cases hk:(jC l (ca,false)).2.2=false∧iY (jC l (ca,false)).1=true
  ·left;rw[if_pos hk] at h2;refine⟨(i+1,acc++[(jC l (ca,false)).1],(jC l (ca,false)).2), ?_⟩;have hcc:(jC l (ca,false)).2=((jC l (ca,false)).2.1,false):=Prod.ext rfl hk.1;have hres:(p7 l (D-(i+1)) (jC l (ca,false)).2).map (fun r=>((acc++[(jC l (ca,false)).1])++r.1,r.2))=(p7 l (D-i) (ca,false)).map fun r=>(acc++r.1,r.2):=by
    rw[hd,p7,if_pos hk,Option.map_map];congr 1;funext r;simp
   simp only[hres,and_true];have hrun:∃y,cy (run M) (D+1) bR.l0 (Az l b n i acc (ca,false) ⟨xa,xb,xc,xd⟩)=some (.normal,Az l b n (i+1) (acc++[(jC l (ca,false)).1]) (jC l (ca,false)).2 y):=by
    rw[hcc];generalize jC l (ca,false)=r at*;simp only[kO.ex];cases i with
    |zero=>
     have:acc=[]:=ba ha;subst this;simp (maxSteps:=9^9) [bR.l0,setAt,Az,D6,h2,h3,wrap_one,iW,ah]
    |succ i=>
     have e5:IntKind.i64.wrap ((i:Int)+1+1)=(i:Int)+1+1:=wrap_i64 (by omega) (by omega);have e6:i+1+1≤4294967296:=by omega
     have h3':(i:Int)+1<n:=by omega
     have h4':(i:Int)+1≤10:=by omega
     simp (maxSteps:=9^9) [bR.l0,setAt,Az,D6,h3',h4',h2,e5,e6,ha,iW,ah,ab]
   obtain⟨y,hy⟩:=hrun;exact⟨y,hy,⟨hlt,by simp[ha],fun _=>hk.1⟩,by omega⟩
  ·right;rw[if_neg hk] at h2;rw[hd,p7,if_neg hk];have hrun:∃z,cy (run M) (D+1) bR.l0 (Az l b n i acc (ca,false) ⟨xa,xb,xc,xd⟩)=some (BX l b n none z):=by
    simp only[aH,kO.ex];cases i with
    |zero=>
     have:acc=[]:=ba ha;subst this;simp (maxSteps:=9^9) [bR.l0,setAt,Az,D6,BX,h2,h3,AH]
    |succ i=>
     have h3':(i:Int)+1<n:=by omega
     have h4':(i:Int)+1≤10:=by omega
     simp (maxSteps:=9^9) [bR.l0,setAt,Az,D6,BX,h3',h4',h2,AH]
   obtain⟨z,hz⟩:=hrun;exact⟨z,hz,Fz _ _ _ _ _⟩
 ·have:i=D:=by omega
  subst this;right;rw[Nat.sub_self];simp only[p7,iJ,eM];have hrun:∃z,cy (run M) (i+1) bR.l0 (Az l b n i acc c x)=some (BX l b n (some (acc,c)) (z,[])):=by
   obtain⟨xa,xb,xc,xd⟩:=x;simp only[kO.ex];have hx:i=n∨i=11:=by omega
   rcases hx with rfl|rfl
   ·by_cases hz:i=0
    ·subst hz;simp (maxSteps:=9^9) [bR.l0,Az,J8,BX,D6,ha]
    ·simp (maxSteps:=9^9) [bR.l0,Az,J8,BX,D6,ha,hz]
   ·have h1:11≤n:=by omega
    by_cases h2:(11:Int)<n
    ·simp (maxSteps:=9^9) [bR.l0,Az,J8,BX,D6,ha,h2]
    ·simp (maxSteps:=9^9) [bR.l0,Az,J8,BX,D6,ha,h2]
  obtain⟨z,hz⟩:=hrun;exact⟨(z,[]),hz,Fz _ _ _ _ _⟩
theorem qJ(l:List UInt8)(c:iX):(g_ l c).1.length≤l.length:=by
 have h:(gT l c.1).1.length≤l.length:=by
  unfold gT;split
  ·simp;omega
  ·simp
 unfold g_;split
 ·simp
 ·exact h
theorem vC(l:List UInt8)(c:iX):(jC l c).1.flags.length=3:=by simp[jC,lH]
theorem xG{l:List UInt8}:∀{d:Nat} {c:iX} {r:List bp×iX},p7 l d c=some r→∀m∈r.1,m.flags.length=3
 |0,c,r,h=>by simp[p7] at h;subst h;simp
 |d+1,c,r,h=>by
  simp only[p7] at h;split at h
  ·simp only[aq] at h;obtain⟨q,hq,rfl⟩:=h;intro m hm;rcases List.mem_cons.1 hm with rfl|hm
   ·exact vC l c
   ·exact xG hq m hm
  ·cases h
theorem xE{α:Type}{p:iX→α×iX}:∀n c,(nu p n c).1.length≤n
 |0,c=>by simp[nu]
 |n+1,c=>by
  simp only[nu];split
  ·simp
  ·have:=xE (p:=p) n (p c).2;simp;omega
theorem bR.al(h:bR.k M)(l:List UInt8)(hl:l.length≤1048576)(a:Int):
  run M 52 [.c (S l),.c (I a)] []=some (.lL [.a (bM (r7 l a).1),.c (I (r7 l a).2.1),.c (.bool (r7 l a).2.2)],[]):=by
 obtain⟨h0,k1,k2,k3,k5,k4⟩:=h;have hl2:l.length≤4611686018427387904:=by omega
 have h1:=cq.at k2 l hl2 a false;have h2:=fZ.al k3 l hl2 (cvar l (a,false)).2;have h3:=cq.al k2 l hl2 (g_ l (cvar l (a,false)).2).2;have h4:=cq.al k2 l hl2 (cvar l (g_ l (cvar l (a,false)).2).2).2;have h5:=cq.al k2 l hl2 (cvar l (cvar l (g_ l (cvar l (a,false)).2).2).2).2;rw[D5];have e0:Ar l (a,false)=(p7 l (Min.min (cvar l (lj l (a,false)).2).1.toNat 11) (cvar l (lj l (a,false)).2).2).map fun ms=>({(lj l (a,false)).1 with ae:=ms.1,gone:=(mz l 40 ms.2).1},(mz l 40 ms.2).2):=rfl
 rw[e0];have e1:lj l (a,false)=(⟨(cvar l (a,false)).1,(g_ l (cvar l (a,false)).2).1,(cvar l (g_ l (cvar l (a,false)).2).2).1,(cvar l (cvar l (g_ l (cvar l (a,false)).2).2).2).1,(cvar l (cvar l (cvar l (g_ l (cvar l (a,false)).2).2).2).2).1,[],[]⟩,(cvar l (cvar l (cvar l (g_ l (cvar l (a,false)).2).2).2).2).2):=rfl;rw[e1];clear e0 e1;have hname:=qJ l (cvar l (a,false)).2;generalize cvar l (a,false)=q1 at*;generalize g_ l q1.2=q2 at*;generalize cvar l q2.2=q3 at*;generalize cvar l q3.2=q4 at*;generalize cvar l q4.2=q5 at*;have h6:=cq.al k2 l hl2 q5.2;have hn:=oT l q5.2;have hz:(cvar l q5.2).2.2=true→(cvar l q5.2).1=0:=by
  unfold cvar;split
  ·intro _;rfl
  ·intro h;cases h
 simp only;generalize cvar l q5.2=q6 at*;obtain⟨n,c1⟩:=q6;simp only at hn hz ⊢;obtain⟨n,rfl⟩:=hH hn.1;simp only[eS];obtain⟨D,hD⟩:∃D,Min.min n 11=D:=⟨_,rfl⟩
 refine ao (b:=bR.m) h0 ⟨D+1, ?_⟩;obtain⟨g,hr⟩:=bR.loop k5 l hl2 ⟨q1.1,q2.1,q3.1,q4.1,q5.1,[],[]⟩ n D hD c1 (fun hd=>by
  cases hc:c1.2
  ·rfl
  ·have:=hz hc;omega)
 rw[hD]
 replace hr:=fun a b d=>hr ⟨a,b,0,d⟩
 cases hq:p7 l D c1 with
 |none=>
  simp only[hq] at hr;simp[Az,D6,BX] at hr;simp only[Option.map_none];simp (maxSteps:=9^9) [a8,bR.m,bR.b,aa,setAt,h1,h2,h3,h4,h5,h6,hr,yi,ax]
 |some r=>
  simp only[hq] at hr;simp only[iJ];obtain⟨m1,m2,m3,m4⟩:=uJ hq;have m5:=xG hq;have h7:=ev.al k4 l hl2 40 (by omega) r.2;simp only[aM] at h7;have hgl:(mz l 40 r.2).1.length≤41:=by
   unfold mz;exact Nat.le_trans (xE _ _) (by omega)
  have h8:=bD.al k1 ⟨q1.1,q2.1,q3.1,q4.1,q5.1,r.1,(mz l 40 r.2).1⟩ (by simp only[m4];omega) (by simp only;omega) (by simp only;omega) (fun m hm=>by rw[m5 m hm];omega);simp only[af] at h8;generalize mz l 40 r.2=w at*;generalize hbb:fQ _=ok at*;by_cases hz:D=0
  ·have hr0:r.1=[]:=ba (by omega);subst hz;simp[Az,J8,D6,BX,hr0] at hr;simp only[hr0,ae,ints,ax,bJ] at h8;cases c1:w.2.2
   ·cases ok<;>simp (maxSteps:=9^9) [a8,bR.m,bR.b,aa,setAt,h1,h2,h3,h4,h5,h6,h7,h8,hr,hr0,c1,yi,ax,ab]
   ·simp (maxSteps:=9^9) [a8,bR.m,bR.b,aa,setAt,h1,h2,h3,h4,h5,h6,h7,hr,c1,yi,ax,ab]
  ·have hz':¬r.1.length=0:=by omega
   have hz'':r.1≠[]:=fun e=>hz' (by rw[e];rfl)
   simp only[ae,ints,ax] at h8;simp[Az,J8,D6,BX,hz''] at hr;cases c1:w.2.2
   ·cases ok<;>simp (maxSteps:=9^9) [a8,bR.m,bR.b,aa,setAt,h1,h2,h3,h4,h5,h6,h7,h8,hr,c1,yi,ax,ab]
   ·simp (maxSteps:=9^9) [a8,bR.m,bR.b,aa,setAt,h1,h2,h3,h4,h5,h6,h7,hr,c1,yi,ax,ab]
theorem oM{s:aW}(h:bu s=true):isVar s.eD∧isVar s.time∧s.boxes.length≤5∧s.gone.length≤20∧(∀n∈s.gone,isVar n)∧(∀b∈s.boxes,fQ b=true)∧1≤s.eD∧s.eD≤2:=by
 simp only[bu,ak,decide_eq_true_eq,b9,iN,i_] at h;obtain⟨⟨⟨⟨h1,h2⟩,h3⟩,h4⟩,h5⟩:=h;have hg:=nM h4;refine⟨⟨by omega,by omega⟩,⟨by omega,by omega⟩,h3,by omega,fun n hn=>⟨by have:=hg.2 n hn;omega,by have:=hg.2 n hn;omega⟩,fun b hb=> ?_,h1.1,h1.2⟩;obtain⟨i,hi,rfl⟩:=bF hb;have:=h5 i hi;rw[nZ hi,ot hi] at this;simp at this;exact this.1.1.1.1.1
theorem xN{b:bz}(h:fQ b=true):(sB b).length≤11000:=by
 obtain⟨v1,v2,v3,v4,v5,v6,v7,v8,v9⟩:=jT h;have:=A7 h;have:=kW dE b.gone 10 fun n hn=>da (v8 n hn)
 have:=kW oa b.ae 1000 fun m hm=>sa (v9 m hm)
 have:=kL (n:=b.gone.length) (by omega);simp only[sB,aC];omega
def oe(s:aW):List UInt8:=dE s.eD++(dE s.time++iK s.boxes.length)
def storeT(s:aW):List UInt8:=oe s++(texts sB s.boxes++(iK s.gone.length++texts dE s.gone))
def iL(s:aW):List UInt8×Bool:=if bu s=true then oh (storeT s) else([],false)
theorem BG{s:aW}(h:bu s=true):(oe s).length≤30:=by
 obtain⟨v1,v2,v3,v4,v5,v6,_⟩:=oM h;have:=da v1;have:=da v2;have:=kL (n:=s.boxes.length) (by omega);simp only[oe,aC];omega
def Mq(s:aW)(i:Nat)(t:List UInt8)(x:Nat×Nat):St:={t:=[(1,.c (.ptr 1 x.1 0 0)),(4,.c (S t)),(5,.c (I i))],o:=[(1,⟨x.1,4,true,true,[ai s]⟩)],n:=x.2}
def M0(s:aW)(t:List UInt8)(x:Nat×Nat):St:={t:=[(1,.c (.ptr 1 x.1 0 0)),(4,.c (S t)),(5,.c (I s.boxes.length)),(28,.c (.bool false))],o:=[(1,⟨x.1,4,true,true,[ai s]⟩)],n:=x.2}
def Ht(s:aW)(i:Nat)(t:List UInt8)(x:Nat×Nat):St:={t:=[(1,.c (.ptr 1 x.1 0 0)),(4,.c (S t)),(8,.c (I i))],o:=[(1,⟨x.1,4,true,true,[ai s]⟩)],n:=x.2}
def JS(s:aW)(t:List UInt8)(x:Nat×Nat):St:={t:=[(1,.c (.ptr 1 x.1 0 0)),(4,.c (S t)),(8,.c (I s.gone.length)),(53,.c (.bool false))],o:=[(1,⟨x.1,4,true,true,[ai s]⟩)],n:=x.2}
theorem ch.al(h:ch.k M)(s:aW)(hs:iI s):run M 60 [.a (ai s)] []=some (.lL [.c (S (iL s).1),.c (.bool (iL s).2)],[]):=by
 obtain⟨h0,kb,kv,kse,ko⟩:=h;have h1:=aN.al ko s hs;refine ao (b:=ch.m) h0 ⟨s.boxes.length+s.gone.length+1, ?_⟩;simp only[ai] at h1;unfold iL;cases c:bu s
 ·rw[c] at h1;simp (maxSteps:=9^9) [a8,ch.m,ch.b,aa,h1]
 rw[c] at h1;obtain⟨v1,v2,v3,v4,v5,v6,_⟩:=oM c;have g1:=bG.int kv s.eD v1.1 (by have:=v1.2;omega);have g2:=bG.int kv s.time v2.1 (by have:=v2.2;omega);have g6:=bG.al kv s.boxes.length (by omega);have g7:=bG.al kv s.gone.length (by omega);have l1:=da v1;have l2:=da v2;have l7:=kL (n:=s.boxes.length) (by omega);have l8:=kL (n:=s.gone.length) (by omega);have l9:=kW dE s.gone 10 fun n hn=>da (v5 n hn)
 have l10:=kW sB s.boxes 11000 fun b hb=>xN (v6 b hb)
 have hp:=BG c;obtain⟨g,hr⟩:=oW (f:=cy (run M) (s.boxes.length+s.gone.length+1) ch.l0) s.boxes sB 11000 30 (fun b hb=>xN (v6 b hb)) (Mq s) 0 (M0 s)
  (fun i hi t x ht=>by
   obtain⟨v,x⟩:=x;have e5:=cz (i:=i) (by omega);have hx:=v6 _ (ar hi);have hin:=(hs.i _ (ar hi)).ok;have h6:=dp.al kb s.boxes[i] hin.1 hin.2.1 hin.2.2.1 hin.2.2.2;rw[if_pos hx,hx] at h6;have h7:=xN hx;simp only[af] at h6;simp only[aH];have e6:=fT t (sB s.boxes[i]) (by omega);simp (maxSteps:=9^9) [ch.l0,Mq,hi,h6,e5,e6,af])
  (fun t x=>by
   obtain⟨v,x⟩:=x;simp only[aH];simp (maxSteps:=9^9) [ch.l0,Mq,M0]) (oe s) hp
 obtain⟨g',hr'⟩:=oW (f:=cy (run M) (s.boxes.length+s.gone.length+1) ch.l1) s.gone dE 10 56000 (fun n hn=>da (v5 n hn)) (Ht s) 2 (JS s)
  (fun i hi t x ht=>by
   obtain⟨v,x⟩:=x;have e5:=cz (i:=i) (by omega);have hx:=v5 _ (ar hi);have h6:=bG.int kv s.gone[i] hx.1 (by have:=hx.2;omega);have h7:=da hx;simp only[aH];have e6:=fT t (dE s.gone[i]) (by omega);simp (maxSteps:=9^9) [ch.l1,Ht,hi,h6,e5,e6])
  (fun t x=>by
   obtain⟨v,x⟩:=x;simp only[aH];simp (maxSteps:=9^9) [ch.l1,Ht,JS]) (oe s++texts sB s.boxes++iK s.gone.length) (by simp;omega)
 have e1:=fT (dE s.eD) (dE s.time) (by omega);have e2:=fT (dE s.eD++dE s.time) (iK s.boxes.length) (by simp;omega);have e3:oe s=dE s.eD++dE s.time++iK s.boxes.length:=by simp[oe]
 rw[←e3] at e2;have e8:=fT (oe s++texts sB s.boxes) (iK s.gone.length) (by simp;omega);have hse:=iQ.al kse (storeT s) (by simp only[storeT,aC];omega);simp only[storeT] at hse ⊢;simp only[ct] at e1 e2 e8 hse;simp[Mq,M0] at hr;simp[Ht,JS] at hr';have hr2:=fun x y=>gP (hr x y) (show s.boxes.length+1≤s.boxes.length+s.gone.length+1 by omega)
 have hr3:=fun x y=>gP (hr' x y) (show s.gone.length+1≤s.boxes.length+s.gone.length+1 by omega)
 generalize oe s=p at*;generalize texts sB s.boxes=q at*;generalize texts dE s.gone=r at*;simp (maxSteps:=9^9) [a8,ch.m,ch.b,aa,hr2,hr3,h1,g1,g2,g6,g7,e1,e2,e8,hse]
def nE(u:List UInt8)(c:iX):aW×iX:=
 let w:=cvar u c
 let t:=cvar u w.2
 let k:=jM u 5 t.2
 let bs:=lp (ll u) k.1.toNat k.2
 let go:=nX u 20 bs.2
 (⟨w.1,t.1,bs.1,go.1⟩,go.2)
def k_:aW:=⟨0,0,[],[]⟩
def gK(l:List UInt8):aW×Bool:=
 if(gF l).2=true∧(nE (gF l).1 (0,false)).2.2=false∧(nE (gF l).1 (0,false)).2.1=(gF l).1.length∧bu (nE (gF l).1 (0,false)).1=true
 then((nE (gF l).1 (0,false)).1,true) else(k_,false)
theorem xF{α:Type}{p:iX→α×iX}{Q:α→Prop}(h:∀c,Q (p c).1):∀n c,∀x∈(lp p n c).1,Q x
 |0,c,x,hx=>by simp[lp] at hx
 |n+1,c,x,hx=>by
  simp only[lp] at hx;rcases List.mem_cons.1 hx with rfl|hx
  ·exact h c
  ·exact xF h n _ x hx
theorem yV(l:List UInt8)(most:Nat)(c:iX):(nX l most c).1.length≤most:=by
 have:=p8 l most c;unfold nX;rw[lH];omega
structure Bo (u:List UInt8) (b:bz):Prop where
 m:b.ae.length≤10
 g:b.gone.length≤40
 n:b.name.length≤u.length
 f:∀m∈b.ae,m.flags.length=3
theorem Dq(u:List UInt8)(c:iX):Bo u (ll u c).1:=by
 have hn:=p8 u 10 (lj u c).2;refine⟨?_, ?_, ?_, ?_⟩
 ·simp only[ll,lH];omega
 ·have:=yV u 40 (lp (jC u) (jM u 10 (lj u c).2).1.toNat (jM u 10 (lj u c).2).2).2;exact this
 ·exact qJ u _
 ·exact xF (fun c=>vC u c) _ _
theorem Bo.is{u:List UInt8}{b:bz}(h:Bo u b)(hu:u.length≤1048576):iw b:=⟨by have:=h.m;omega,by have:=h.g;omega,by have:=h.n;omega,fun m hm=>by rw[h.f m hm];omega⟩
theorem Dj{α:Type}(f:α→List Int)(k:Nat):∀(l:List α),(∀x∈l,(f x).length≤k)→(l.flatMap f).length≤l.length*k
 |[],_=>by simp
 |x::l,h=>by
  have h1:=Dj f k l fun y hy=>h y (bq _ hy)
  have h2:=h x (bh ..);have:(l.length+1)*k=l.length*k+k:=Nat.succ_mul _ _;simp only[cH,aC,bT];omega
theorem wq{u:List UInt8}{s:aW}(hu:u.length≤1048576)(h1:s.boxes.length≤10)(h2:s.gone.length≤100)(h3:∀b∈s.boxes,Bo u b):iI s:=by
 refine⟨by omega,by omega,fun b hb=>(h3 b hb).is hu, ?_⟩;have:=Dj b_ 10 s.boxes fun b hb=>by rw[jF];exact(h3 b hb).m
 omega
abbrev BV:List T:=[I 0,I 0,.aO 7,.aO 1]
def C2(w t:Int)(i:Nat)(acc:List bz)(v:Nat)(u:List UInt8)(c:iX)(x:kO):List (Nat×Ob):=[(2,⟨x.a,4,true,true,[BV]⟩),(7,⟨x.b,4,true,true,[[I w,I t,if i=0 then .aO 7 else .row 35 x.c 0 i,.aO 1]]⟩),(17,mX v u c)]++if i=0 then [] else [(35,⟨x.c,7,true,false,acc.map af⟩)]
def D1(u:List UInt8)(ok:Bool)(w t:Int)(n i:Nat)(acc:List bz)(c:iX)(x:kO):St:={t:=[(2,.c (.ptr 2 x.a 0 0)),(4,.c (S u)),(5,.c (.bool ok)),(6,.c (.ptr 17 2000176 0 0)),(7,.c (.ptr 7 x.b 0 0)),(26,.c (I n)),(27,.c (I i))],o:=C2 w t i acc 2000176 u c x,n:=x.d}
def Fq(u:List UInt8)(ok:Bool)(w t:Int)(n:Nat)(acc:List bz)(c:iX)(x:kO):St:={t:=[(2,.c (.ptr 2 x.a 0 0)),(4,.c (S u)),(5,.c (.bool ok)),(6,.c (.ptr 17 2000176 0 0)),(7,.c (.ptr 7 x.b 0 0)),(26,.c (I n)),(27,.c (I n)),(28,.c (.bool false))],o:=C2 w t n acc 2000176 u c x,n:=x.d}
theorem bH.al(h:bH.k M)(l:List UInt8)(hl:l.length≤1048576):
  run M 76 [.c (S l)] []=some (.lL [.a (aS (gK l).1),.c (.bool (gK l).2)],[]):=by
 obtain⟨h0,k1,k2,k3,k4,k5,k6⟩:=h;have h1:=f_.al k4 l (by omega);have hu:(gF l).1.length≤1048576:=by unfold gF;split<;>simp;omega
 unfold gK;generalize gF l=un at*;obtain⟨u,ok⟩:=un;simp only at hu ⊢;have hu2:u.length≤4611686018427387904:=by omega
 have h2:=bS.at k3 u hu2 0 false;have h3:=bS.al k3 u hu2 (cvar u (0,false)).2;have e0:nE u (0,false)=(⟨(cvar u (0,false)).1,(cvar u (cvar u (0,false)).2).1,(lp (ll u) (jM u 5 (cvar u (cvar u (0,false)).2).2).1.toNat (jM u 5 (cvar u (cvar u (0,false)).2).2).2).1,(nX u 20 (lp (ll u) (jM u 5 (cvar u (cvar u (0,false)).2).2).1.toNat (jM u 5 (cvar u (cvar u (0,false)).2).2).2).2).1⟩,(nX u 20 (lp (ll u) (jM u 5 (cvar u (cvar u (0,false)).2).2).1.toNat (jM u 5 (cvar u (cvar u (0,false)).2).2).2).2).2):=rfl;rw[e0];clear e0;generalize cvar u (0,false)=q1 at*;generalize cvar u q1.2=q2 at*;have h4:=dZ.al k5 u hu2 5 q2.2;have hn:=p8 u 5 q2.2;generalize jM u 5 q2.2=q3 at*;obtain⟨n,c1⟩:=q3;simp only at hn ⊢;obtain⟨n,rfl⟩:=hH hn.1;simp only[eS];refine ao (b:=bH.m) h0 ⟨n+1, ?_⟩;obtain⟨g,hr⟩:=ry (f:=cy (run M) (n+1) bH.l0) n (ll u) (D1 u ok q1.1 q2.1 n) 0 (Fq u ok q1.1 q2.1 n)
  (fun i hi acc c x ha=>by
   obtain⟨v,w,z,x⟩:=x;have h2:=dD.al k1 u hu2 c;simp only[kO.ex];cases i with
   |zero=>
    have:acc=[]:=ba ha;subst this;simp (maxSteps:=9^9) [bH.l0,setAt,D1,C2,hi,h2,wrap_one,bM,af,ints]
   |succ i=>
    have e5:IntKind.i64.wrap ((i:Int)+1+1)=(i:Int)+1+1:=wrap_i64 (by omega) (by omega);have e6:i+1+1≤4294967296:=by omega
    have e7:(i:Int)+1<n:=by omega
    simp (maxSteps:=9^9) [bH.l0,setAt,D1,C2,e7,h2,e5,e6,ha,bM,af,ints,ab])
  (fun acc c x ha=>by
   obtain⟨v,w,z,x⟩:=x;simp only[kO.ex];by_cases hz:n=0
   ·subst hz;simp (maxSteps:=9^9) [bH.l0,D1,Fq,C2]
   ·simp (maxSteps:=9^9) [bH.l0,D1,Fq,C2,hz]) c1
 have hlen:=lH (ll u) n c1;have hall:=xF (fun c=>Dq u c) n c1;generalize lp (ll u) n c1=q4 at*;have h5:=dC.al k6 u hu2 20 q4.2;have hgl:=yV u 20 q4.2;simp only[aM] at hgl;generalize nX u 20 q4.2=q5 at*;have h6:=aQ.al k2 ⟨q1.1,q2.1,q4.1,q5.1⟩ (wq (u:=u) hu (by simp only[hlen];omega) (by simp only;omega) hall);simp only[ai,boxes,ints,ax] at h6;generalize bu _=sk at*
 replace hr:=fun a b d=>hr ⟨a,b,0,d⟩
 cases ok
 ·by_cases hz:n=0
  ·subst hz;have hq:q4.1=[]:=ba hlen;simp[D1,Fq,C2] at hr;simp (maxSteps:=9^9) [a8,bH.m,bH.b,aa,setAt,h1,h2,h3,h4,h5,hr,k_,ax,ab]
  ·simp[D1,Fq,C2,hz] at hr;simp (maxSteps:=9^9) [a8,bH.m,bH.b,aa,setAt,h1,h2,h3,h4,h5,hr,k_,ax,ab]
 cases c2:q5.2.2;rotate_left
 ·by_cases hz:n=0
  ·subst hz;have hq:q4.1=[]:=ba hlen;simp[D1,Fq,C2] at hr;simp (maxSteps:=9^9) [a8,bH.m,bH.b,aa,setAt,h1,h2,h3,h4,h5,hr,c2,k_,ax,ab]
  ·simp[D1,Fq,C2,hz] at hr;simp (maxSteps:=9^9) [a8,bH.m,bH.b,aa,setAt,h1,h2,h3,h4,h5,hr,c2,k_,ax,ab]
 by_cases c3:q5.2.1=(u.length:Int);rotate_left
 ·by_cases hz:n=0
  ·subst hz;have hq:q4.1=[]:=ba hlen;simp[D1,Fq,C2] at hr;simp (maxSteps:=9^9) [a8,bH.m,bH.b,aa,setAt,h1,h2,h3,h4,h5,hr,c2,c3,k_,ax,ab]
  ·simp[D1,Fq,C2,hz] at hr;simp (maxSteps:=9^9) [a8,bH.m,bH.b,aa,setAt,h1,h2,h3,h4,h5,hr,c2,c3,k_,ax,ab]
 by_cases hz:n=0
 ·subst hz;have hq:q4.1=[]:=ba hlen;simp only[hq,bJ] at h6;simp[D1,Fq,C2] at hr;cases sk<;>simp (maxSteps:=9^9) [a8,bH.m,bH.b,aa,setAt,h1,h2,h3,h4,h5,h6,hr,hq,c2,c3,k_,ax,ab]
 ·simp[D1,Fq,C2,hz] at hr;cases sk<;>simp (maxSteps:=9^9) [a8,bH.m,bH.b,aa,setAt,h1,h2,h3,h4,h5,h6,hr,hlen,c2,c3,k_,ax,ab]
def rP(l:List UInt8):Nat→iX→Option (List bz×iX)
 |0,c=>some ([],c)
 |d+1,c=>if(ll l c).2.2=false∧fQ (ll l c).1=true then(rP l d (ll l c).2).map fun r=>((ll l c).1::r.1,r.2) else none
theorem p9(l:List UInt8)(c:iX)(h:c.2=true):(ll l c).2.2=true:=(xJ l c).bad h
theorem uK{l:List UInt8}:∀{d:Nat} {c:iX} {r:List bz×iX},rP l d c=some r→lp (ll l) d c=r∧(∀m∈r.1,fQ m=true)∧(c.2=false→r.2.2=false)∧r.1.length=d∧∀m∈r.1,Bo l m
 |0,c,r,h=>by simp[rP] at h;subst h;simp[lp]
 |d+1,c,r,h=>by
  simp only[rP] at h;split at h
  ·rename_i hc;simp only[aq] at h;obtain⟨q,hq,rfl⟩:=h;obtain⟨h1,h2,h3,h4,h5⟩:=uK hq;refine⟨by simp[lp,h1], ?_,fun _=>h3 hc.1,by simp[h4], ?_⟩
   ·intro m hm;rcases List.mem_cons.1 hm with rfl|hm
    ·exact hc.2
    ·exact h2 m hm
   ·intro m hm;rcases List.mem_cons.1 hm with rfl|hm
    ·exact Dq l c
    ·exact h5 m hm
  ·cases h
theorem yX{l:List UInt8}:∀{d:Nat} {c:iX},rP l d c=none→(lp (ll l) d c).2.2=true∨∃m∈(lp (ll l) d c).1,fQ m=false
 |0,c,h=>by simp[rP] at h
 |d+1,c,h=>by
  simp only[rP] at h;split at h
  ·rename_i hc;simp only[Option.map_eq_none_iff] at h;rcases yX h with h1|⟨m,h1,h2⟩
   ·exact .inl h1
   ·exact .inr ⟨m,bq _ h1,h2⟩
  ·rename_i hc;cases h1:(ll l c).2.2
   ·right;refine⟨_,bh .., ?_⟩;cases h2:fQ (ll l c).1
    ·rfl
    ·exact(hc ⟨h1,h2⟩).elim
   ·left;exact lI (p9 l) d _ h1
theorem rq{s:aW}(h:(5<s.boxes.length∨20<s.gone.length)∨∃b∈s.boxes,fQ b=false):bu s=false:=by
 cases hb:bu s
 ·rfl
 ·obtain⟨h1,h2,h3,h4,h5,h6,_⟩:=oM hb;rcases h with (h|h)|⟨m,hm,h⟩
  ·omega
  ·omega
  ·rw[h6 m hm] at h;cases h
def qm(u:List UInt8)(c:iX):Option (aW×iX):=
 let w:=cvar u c
 let t:=cvar u w.2
 let k:=cvar u t.2
 (rP u (Min.min k.1.toNat 6) k.2).map fun ms=>(⟨w.1,t.1,ms.1,(mz u 20 ms.2).1⟩,(mz u 20 ms.2).2)
theorem wA{u:List UInt8}{c:iX}{r:aW×iX}(hr:qm u c=some r):nE u c=r∨(r.2.2=true∨bu r.1=false)∧(nE u c).2.2=true:=by
 simp only[qm,aq] at hr;obtain⟨ms,hms,rfl⟩:=hr;obtain⟨h1,h2,h3,h4,h5⟩:=uK hms;have hn:=oT u (cvar u (cvar u c).2).2;simp only[nE,jM];generalize cvar u (cvar u (cvar u c).2).2=k at*;by_cases hb:k.2.2=true
 ·right;rw[if_pos (.inr hb)];have hms2:ms.2.2=true:=by rw[←h1];exact lI (p9 u) _ _ hb
  refine⟨.inl ?_, ?_⟩
  ·simp only[mz];rw[so _ _ (o6 u _ hms2)];exact o6 u _ hms2
  ·exact mF u _ _ (lI (p9 u) _ _ rfl)
 ·by_cases ht:5<k.1
  ·right;rw[if_pos (.inl ht)];refine⟨.inr (rq (.inl (.inl ?_))),mF u _ _ (lI (p9 u) _ _ rfl)⟩;simp only[h4];omega
  ·rw[if_neg (by rw[not_or];exact⟨ht,hb⟩)];rw[show Min.min k.1.toNat 6=k.1.toNat by omega] at h1;rw[h1];rcases xI u 20 ms.2 with⟨q1,q2⟩|q
   ·right;refine⟨?_,q2⟩;rcases q1 with q1|q1
    ·exact .inl q1
    ·exact .inr (rq (.inl (.inr q1)))
   ·left;rw[q];rfl
theorem Ah{u:List UInt8}{c:iX}(hs:qm u c=none):¬((nE u c).2.2=false∧bu (nE u c).1=true):=by
 rintro ⟨h3,h4⟩;simp only[qm,Option.map_eq_none_iff] at hs;have hk:=yX hs;have hn:=oT u (cvar u (cvar u c).2).2;simp only[nE,jM] at h3 h4;generalize cvar u (cvar u (cvar u c).2).2=k at*;by_cases hb:k.2.2=true
 ·rw[if_pos (.inr hb)] at h3;rw[mF u _ _ (lI (p9 u) _ _ rfl)] at h3;cases h3
 ·by_cases ht:5<k.1
  ·rw[if_pos (.inl ht)] at h3;rw[mF u _ _ (lI (p9 u) _ _ rfl)] at h3;cases h3
  ·rw[if_neg (by rw[not_or];exact⟨ht,hb⟩)] at h3 h4;rw[show Min.min k.1.toNat 6=k.1.toNat by omega] at hk;rcases hk with hk|⟨m,hm,hk⟩
   ·rw[mF u _ _ hk] at h3;cases h3
   ·rw[rq (.inr ⟨m,hm,hk⟩)] at h4;cases h4
theorem tX(u:List UInt8)(c:iX):nv u c (nE u c).2 (storeT (nE u c).1):=by
 have h1:=(((jG u c).trans (jG u _)).trans (rO u 5 (cvar u (cvar u c).2).2)).trans ((pk (xJ u) (jM u 5 (cvar u (cvar u c).2).2).1.toNat (jM u 5 (cvar u (cvar u c).2).2).2).trans (rM u 20 _));have hn:=lH (ll u) (jM u 5 (cvar u (cvar u c).2).2).1.toNat (jM u 5 (cvar u (cvar u c).2).2).2;simp only[storeT,oe,nE,hn];simpa [dE] using h1
theorem Cq(u:List UInt8)(c:iX)(h:c.2=true):(nE u c).2.2=true:=(tX u c).bad h
theorem CT(n:Nat):iK n≠[]:=by
 unfold iK;simp
theorem Ad{l:List UInt8}(h:(gF l).2=true):oh (gF l).1=(l,true):=by
 unfold gF at h ⊢;split at h
 ·rename_i hc;rw[if_pos hc];simp only[oh];have h1:(l.take (l.length-4)).length=l.length-4:=by simp
  rw[if_neg (by omega),←hc.2.2,dm]
 ·cases h
theorem BU{a b:List UInt8}{t:List UInt8}(h:oh a=(t,true))(k:oh b=(t,true)):a=b:=by
 unfold oh at h k;split at h
 ·cases h
 ·split at k
  ·cases k
  ·simp only[aU,and_true] at h k;rw[←k] at h;have hl:=congrArg List.length h;simp only[aC,xq] at hl;exact(List.append_inj h (by omega)).1
def qu(l:List UInt8):aW×Bool:=match qm (gF l).1 (0,!(gF l).2) with
 |none=>(k_,false)
 |some r=>if r.2.2=false∧(iL r.1).2=true∧(iL r.1).1=l then(r.1,true) else(k_,false)
theorem u_(l:List UInt8):qu l=gK l:=by
 unfold qu gK;have hun:= @Ad l;generalize gF l=un at*;obtain⟨u,ok⟩:=un;simp only at hun ⊢;cases ok
 ·simp only[Bool.not_false,ay,false_and,if_false];cases hs:qm u (0,true) with
  |none=>rfl
  |some r=>
   simp only;rw[if_neg];rintro ⟨h1,h2,h3⟩;rcases wA hs with q|⟨q1,q2⟩
   ·have:=Cq u (0,true) rfl;rw[q,h1] at this;cases this
   ·rcases q1 with q1|q1
    ·rw[h1] at q1;cases q1
    ·simp only[iL,q1] at h2;cases h2
 ·have hun:=hun rfl;simp only[Bool.not_true,true_and];cases hs:qm u (0,false) with
  |none=>
   simp only;rw[if_neg fun k=>Ah hs ⟨k.1,k.2.2⟩]
  |some r=>
   simp only;have hsp:=tX u (0,false);rcases wA hs with q|⟨q1,q2⟩
   ·rw[q] at hsp ⊢;have hiff:(r.2.2=false∧(iL r.1).2=true∧(iL r.1).1=l)↔(r.2.2=false∧r.2.1=(u.length:Int)∧bu r.1=true):=by
     constructor
     ·rintro ⟨h1,h2,h3⟩;have hok:bu r.1=true:=by
       cases hk:bu r.1
       ·simp only[iL,hk] at h2;cases h2
       ·rfl
      simp only[iL,hok,if_true] at h2 h3;have heq:storeT r.1=u:=BU (Prod.ext h3 h2) hun;refine⟨h1, ?_,hok⟩;obtain⟨_,hle,hx⟩:=hsp h1;simp only at hle hx;rcases hx with⟨hx,_⟩|⟨_,hx2,hx3⟩
      ·exfalso;have:iK r.1.boxes.length=[]:=by
        simp only[storeT,oe,List.append_eq_nil_iff] at hx;exact hx.1.2.2
       exact CT _ this
      ·rw[heq] at hx3;have:=congrArg List.length hx3;simp at this;omega
     ·rintro ⟨h1,h2,h3⟩;obtain⟨_,hle,hx⟩:=hsp h1;have heq:storeT r.1=u:=by
       simp only at hle hx;rcases hx with⟨hx,hx2⟩|⟨_,hx2,hx3⟩
       ·exfalso;have:iK r.1.boxes.length=[]:=by
         simp only[storeT,oe,List.append_eq_nil_iff] at hx;exact hx.1.2.2
        exact CT _ this
       ·rw[←hx3,h2];simp
      refine⟨h1, ?_, ?_⟩<;>simp[iL,h3,heq,hun]
    by_cases hc:r.2.2=false∧(iL r.1).2=true∧(iL r.1).1=l
    ·rw[if_pos hc,if_pos (hiff.1 hc)]
    ·rw[if_neg hc,if_neg fun k=>hc (hiff.2 k)]
   ·rw[if_neg,if_neg]
    ·rintro ⟨h1,_⟩;rw[q2] at h1;cases h1
    ·rintro ⟨h1,h2,h3⟩;rcases q1 with q1|q1
     ·rw[h1] at q1;cases q1
     ·simp only[iL,q1] at h2;cases h2
def DX(w t:Int)(i:Nat)(acc:List bz)(u:List UInt8)(c:iX)(x:kO):List (Nat×Ob):=[(2,⟨x.a,4,true,true,[BV]⟩),(7,⟨x.b,4,true,true,[[I w,I t,if i=0 then .aO 7 else .row 66 x.c 0 i,.aO 1]]⟩),(24,mX 2000208 u c)]++if i=0 then [] else [(66,⟨x.c,7,true,false,acc.map af⟩)]
def Ai(l u:List UInt8)(w t:Int)(n i:Nat)(acc:List bz)(c:iX)(x:kO):St:={t:=[(0,.c (S l)),(2,.c (.ptr 2 x.a 0 0)),(4,.c (S u)),(6,.c (.ptr 24 2000208 0 0)),(7,.c (.ptr 7 x.b 0 0)),(8,.c (I n)),(9,.c (I i))],o:=DX w t i acc u c x,n:=x.d}
def JU(l u:List UInt8)(w t:Int)(n i:Nat)(acc:List bz)(c:iX)(x:kO):St:={t:=[(0,.c (S l)),(2,.c (.ptr 2 x.a 0 0)),(4,.c (S u)),(6,.c (.ptr 24 2000208 0 0)),(7,.c (.ptr 7 x.b 0 0)),(8,.c (I n)),(9,.c (I i)),(46,.c (.bool false))],o:=DX w t i acc u c x,n:=x.d}
def BM(l u:List UInt8)(w t:Int)(n:Nat)(q:Option (List bz×iX))(m:kO×List (Nat×Ob)):Out×St:=match q with
 |none=>(.ret,{t:=[(2,.c (.ptr 2 m.1.a 0 0)),(3,.c (.bool false))],o:=(2,⟨m.1.a,4,true,true,[BV]⟩)::m.2,n:=m.1.d})
 |some r=>(.exit 0,JU l u w t n r.1.length r.1 r.2 m.1)
theorem Fj(l u:List UInt8)(w t:Int)(n:Nat)(q:Option (List bz×iX))(m:kO×List (Nat×Ob)):(BM l u w t n q m).1≠.normal:=by cases q<;>simp[BM]
theorem bo.loop(k5:bR.k M)(l u:List UInt8)(hl:u.length≤1048576)(w t:Int)(n D:Nat)(hD:Min.min n 6=D)(c:iX)(hc:0<D→c.2=false):
  ∃g:kO→kO×List (Nat×Ob),∀x,fi (cy (run M) (D+1) bo.l0) (D+1) (Ai l u w t n 0 [] c x)=some (BM l u w t n (rP u D c) (g x)):=by
 have:=jP (f:=cy (run M) (D+1) bo.l0) (fun s:Nat×List bz×iX=>Ai l u w t n s.1 s.2.1 s.2.2) (fun s=>s.1≤D∧s.2.1.length=s.1∧(s.1<D→s.2.2.2=false)) (fun s=>D-s.1)
  (fun s=>(rP u (D-s.1) s.2.2).map fun r=>(s.2.1++r.1,r.2)) (BM l u w t n) ?_ (D+1) (0,[],c) ⟨Nat.zero_le _,rfl,hc⟩ (by simp)
 ·simpa using this
 rintro ⟨i,acc,c⟩ x ⟨hi,ha,hc⟩;simp only at hi ha hc;by_cases hlt:i<D
 ·have hc:=hc hlt;obtain⟨ca,cb⟩:=c;simp only at hc;subst hc;have h2:=bR.al k5 u hl ca;have h3:i<n:=by omega
  have h4:i≤5:=by omega
  have hd:D-i=(D-(i+1))+1:=by omega
  obtain⟨xa,xb,xc,xd⟩:=x;unfold r7 at h2;by_cases hk:(ll u (ca,false)).2.2=false∧fQ (ll u (ca,false)).1=true
  ·left;rw[if_pos hk] at h2;refine⟨(i+1,acc++[(ll u (ca,false)).1],(ll u (ca,false)).2), ?_⟩;have hcc:(ll u (ca,false)).2=((ll u (ca,false)).2.1,false):=Prod.ext rfl hk.1;have hres:(rP u (D-(i+1)) (ll u (ca,false)).2).map (fun r=>((acc++[(ll u (ca,false)).1])++r.1,r.2))=(rP u (D-i) (ca,false)).map fun r=>(acc++r.1,r.2):=by
    rw[hd,rP,if_pos hk,Option.map_map];congr 1;funext r;simp
   simp only[hres,and_true];have hrun:∃y,cy (run M) (D+1) bo.l0 (Ai l u w t n i acc (ca,false) ⟨xa,xb,xc,xd⟩)=some (.normal,Ai l u w t n (i+1) (acc++[(ll u (ca,false)).1]) (ll u (ca,false)).2 y):=by
    rw[hcc];generalize ll u (ca,false)=r at*;simp only[kO.ex];cases i with
    |zero=>
     have:acc=[]:=ba ha;subst this;simp (maxSteps:=9^9) [bo.l0,setAt,Ai,DX,h2,h3,wrap_one,bM,af,ints]
    |succ i=>
     have e5:IntKind.i64.wrap ((i:Int)+1+1)=(i:Int)+1+1:=wrap_i64 (by omega) (by omega);have e6:i+1+1≤4294967296:=by omega
     have h3':(i:Int)+1<n:=by omega
     have h4':(i:Int)+1≤5:=by omega
     simp (maxSteps:=9^9) [bo.l0,setAt,Ai,DX,h3',h4',h2,e5,e6,ha,bM,af,ints,ab]
   obtain⟨y,hy⟩:=hrun;exact⟨y,hy,⟨hlt,by simp[ha],fun _=>hk.1⟩,by omega⟩
  ·right;rw[if_neg hk] at h2;rw[hd,rP,if_neg hk];have hrun:∃z,cy (run M) (D+1) bo.l0 (Ai l u w t n i acc (ca,false) ⟨xa,xb,xc,xd⟩)=some (BM l u w t n none z):=by
    simp only[aH,kO.ex];cases i with
    |zero=>
     have:acc=[]:=ba ha;subst this;simp (maxSteps:=9^9) [bo.l0,setAt,Ai,DX,BM,h2,h3,yi,ax]
    |succ i=>
     have h3':(i:Int)+1<n:=by omega
     have h4':(i:Int)+1≤5:=by omega
     simp (maxSteps:=9^9) [bo.l0,setAt,Ai,DX,BM,h3',h4',h2,yi,ax]
   obtain⟨z,hz⟩:=hrun;exact⟨z,hz,Fj _ _ _ _ _ _ _⟩
 ·have:i=D:=by omega
  subst this;right;rw[Nat.sub_self];simp only[rP,iJ,eM];have hrun:∃z,cy (run M) (i+1) bo.l0 (Ai l u w t n i acc c x)=some (BM l u w t n (some (acc,c)) (z,[])):=by
   obtain⟨xa,xb,xc,xd⟩:=x;simp only[kO.ex];have hx:i=n∨i=6:=by omega
   rcases hx with rfl|rfl
   ·by_cases hz:i=0
    ·subst hz;simp (maxSteps:=9^9) [bo.l0,Ai,JU,BM,DX,ha]
    ·simp (maxSteps:=9^9) [bo.l0,Ai,JU,BM,DX,ha,hz]
   ·by_cases h2:(6:Int)<n
    ·simp (maxSteps:=9^9) [bo.l0,Ai,JU,BM,DX,ha,h2]
    ·simp (maxSteps:=9^9) [bo.l0,Ai,JU,BM,DX,ha,h2]
  obtain⟨z,hz⟩:=hrun;exact⟨(z,[]),hz,Fj _ _ _ _ _ _ _⟩
theorem bo.al(h:bo.k M)(l:List UInt8)(hl:l.length≤1048576):
  run M 75 [.c (S l)] []=some (.lL [.a (aS (gK l).1),.c (.bool (gK l).2)],[]):=by
 obtain⟨h0,k5,k1,k2,k4,k3⟩:=h;rw[←u_];have h1:=fg.al k3 l (by omega);have hu:(gF l).1.length≤1048576:=by unfold gF;split<;>simp;omega
 unfold qu;generalize gF l=un at*;obtain⟨u,ok⟩:=un;simp only at hu ⊢;have hu2:u.length≤4611686018427387904:=by omega
 have h2:=cq.at k2 u hu2 0 (!ok);have h3:=cq.al k2 u hu2 (cvar u (0,!ok)).2;have h4:=cq.al k2 u hu2 (cvar u (cvar u (0,!ok)).2).2;have e0:qm u (0,!ok)=(rP u (Min.min (cvar u (cvar u (cvar u (0,!ok)).2).2).1.toNat 6) (cvar u (cvar u (cvar u (0,!ok)).2).2).2).map fun ms=>(⟨(cvar u (0,!ok)).1,(cvar u (cvar u (0,!ok)).2).1,ms.1,(mz u 20 ms.2).1⟩,(mz u 20 ms.2).2):=rfl
 rw[e0];clear e0;generalize cvar u (0,!ok)=q1 at*;generalize cvar u q1.2=q2 at*;have hn:=oT u q2.2;have hz:(cvar u q2.2).2.2=true→(cvar u q2.2).1=0:=by
  unfold cvar;split
  ·intro _;rfl
  ·intro h;cases h
 generalize cvar u q2.2=q3 at*;obtain⟨n,c1⟩:=q3;simp only at hn hz ⊢;obtain⟨n,rfl⟩:=hH hn.1;simp only[eS];obtain⟨D,hD⟩:∃D,Min.min n 6=D:=⟨_,rfl⟩
 refine ao (b:=bo.m) h0 ⟨D+1, ?_⟩;obtain⟨g,hr⟩:=bo.loop k5 l u hu q1.1 q2.1 n D hD c1 (fun hd=>by
  cases hc:c1.2
  ·rfl
  ·have:=hz hc;omega)
 rw[hD]
 replace hr:=fun a b d=>hr ⟨a,b,0,d⟩
 cases hq:rP u D c1 with
 |none=>
  simp only[hq] at hr;simp[Ai,DX,BM] at hr;simp only[Option.map_none];simp (maxSteps:=9^9) [a8,bo.m,bo.b,aa,setAt,h1,h2,h3,h4,hr,k_,ax]
 |some r=>
  simp only[hq] at hr;simp only[iJ];obtain⟨m1,m2,m3,m4,m5⟩:=uK hq;have h7:=ev.al k4 u hu2 20 (by omega) r.2;simp only[aM] at h7;have hgl:(mz u 20 r.2).1.length≤21:=by
   unfold mz;exact Nat.le_trans (xE _ _) (by omega)
  have h8:=ch.al k1 ⟨q1.1,q2.1,r.1,(mz u 20 r.2).1⟩ (wq (u:=u) hu (by simp only[m4];omega) (by simp only;omega) m5);simp only[ai,boxes,ints,ax] at h8;generalize mz u 20 r.2=w at*;generalize iL _=st at*;obtain⟨s1,s2⟩:=st;by_cases hz:D=0
  ·have hr0:r.1=[]:=ba (by omega);subst hz;simp[Ai,JU,DX,BM,hr0] at hr;simp only[hr0,bJ] at h8;cases c1:w.2.2
   ·cases s2
    ·simp (maxSteps:=9^9) [a8,bo.m,bo.b,aa,setAt,h1,h2,h3,h4,h7,h8,hr,c1,k_,ax,ab]
    ·by_cases c3:s1=l<;>simp (maxSteps:=9^9) [a8,bo.m,bo.b,aa,setAt,h1,h2,h3,h4,h7,h8,hr,hr0,c1,c3,k_,ax,ab]
   ·simp (maxSteps:=9^9) [a8,bo.m,bo.b,aa,setAt,h1,h2,h3,h4,h7,h8,hr,c1,k_,ax,ab]
  ·have hz':¬r.1.length=0:=by omega
   have hz'':r.1≠[]:=fun e=>hz' (by rw[e];rfl)
   simp[Ai,JU,DX,BM,hz''] at hr;cases c1:w.2.2
   ·cases s2
    ·simp (maxSteps:=9^9) [a8,bo.m,bo.b,aa,setAt,h1,h2,h3,h4,h7,h8,hr,c1,k_,ax,ab]
    ·by_cases c3:s1=l<;>simp (maxSteps:=9^9) [a8,bo.m,bo.b,aa,setAt,h1,h2,h3,h4,h7,h8,hr,c1,c3,k_,ax,ab]
   ·simp (maxSteps:=9^9) [a8,bo.m,bo.b,aa,setAt,h1,h2,h3,h4,h7,h8,hr,c1,k_,ax,ab]
structure kP where
 kind:Int
 box:Int
 gid:Int
 flags:Int
 text:List UInt8
abbrev dw(c:kP):List T:=[I c.kind,I c.box,I c.gid,I c.flags,S c.text]
def sS(c:kP):Bool:=if c.kind=1∨c.kind=2 then nw c.text else if c.kind=4 then decide (c.text.length≤60) else if c.kind=7 then(gK c.text).2 else decide (c.text=[])
def jX(c:kP):Bool:=kD 1 c.kind 7&&(if c.kind=7 then decide (c.box=0) else kD 1 c.box 9999)&&(if c.kind=4∨c.kind=5∨c.kind=6 then kD 1 c.gid 9999 else decide (c.gid=0))&&
 (if c.kind=4∨c.kind=5 then kD 0 c.flags 7 else decide (c.flags=0))&&sS c
theorem fo.al(h:fo.k M)(c:kP)(hl:c.text.length≤1048576):run M 146 [.a (dw c)] []=some (.c (.bool (sS c)),[]):=by
 obtain⟨h0,k1,k2⟩:=h;have h1:=bo.al k1 c.text hl;have h2:=dW.al k2 c.text (by omega);refine ao (b:=fo.m) h0 ⟨0, ?_⟩;obtain⟨kind,box,gid,flags,text⟩:=c;simp only[sS] at*;simp only[aS] at h1;by_cases c1:kind=1
 ·subst c1;simp (maxSteps:=9^9) [a8,fo.m,fo.b,aa,h2]
 by_cases c2:kind=2
 ·subst c2;simp (maxSteps:=9^9) [a8,fo.m,fo.b,aa,h2]
 by_cases c4:kind=4
 ·have e60:(text.length:Int)≤60↔text.length≤60:=by omega
  subst c4;simp (maxSteps:=9^9) [a8,fo.m,fo.b,aa,e60]
 by_cases c7:kind=7
 ·subst c7;simp (maxSteps:=9^9) [a8,fo.m,fo.b,aa,setAt,h1]
 ·have e:kH .eql (bs text) {data:= #[]}=some (.bool (decide (text=[]))):=zd text [];simp (maxSteps:=9^9) [a8,fo.m,fo.b,aa,c1,c2,c4,c7,e]
theorem aX.al(h:aX.k M)(c:kP)(hl:c.text.length≤1048576):run M 58 [.a (dw c)] []=some (.c (.bool (jX c)),[]):=by
 obtain⟨h0,k1,k2⟩:=h;have h1:=fo.al k2 c hl;have h2:=bY.kD k1 c.kind 1 7;have h3:=bY.kD k1 c.box 1 9999;have h4:=bY.kD k1 c.gid 1 9999;have h5:=bY.kD k1 c.flags 0 7;refine ao (b:=aX.m) h0 ⟨0, ?_⟩;unfold jX;generalize sS c=tk at*;simp only[dw] at h1;obtain⟨kind,box,gid,flags,text⟩:=c;simp only at*;cases r1:kD 1 kind 7
 ·simp (maxSteps:=9^9) [a8,aX.m,aX.b,aa,h2,r1]
 have hk:kind=1∨kind=2∨kind=3∨kind=4∨kind=5∨kind=6∨kind=7:=by rw[i_] at r1;omega
 rcases hk with rfl|rfl|rfl|rfl|rfl|rfl|rfl
 ·cases r3:kD 1 box 9999
  ·simp (maxSteps:=9^9) [a8,aX.m,aX.b,aa,h2,r1,h3,r3]
  by_cases c4:gid=0;rotate_left
  ·simp (maxSteps:=9^9) [a8,aX.m,aX.b,aa,h2,r1,h3,r3,c4]
  subst c4;by_cases c5:flags=0;rotate_left
  ·simp (maxSteps:=9^9) [a8,aX.m,aX.b,aa,h2,r1,h3,r3,c5]
  subst c5;simp (maxSteps:=9^9) [a8,aX.m,aX.b,aa,h1,h2,r1,h3,r3]
 ·cases r3:kD 1 box 9999
  ·simp (maxSteps:=9^9) [a8,aX.m,aX.b,aa,h2,r1,h3,r3]
  by_cases c4:gid=0;rotate_left
  ·simp (maxSteps:=9^9) [a8,aX.m,aX.b,aa,h2,r1,h3,r3,c4]
  subst c4;by_cases c5:flags=0;rotate_left
  ·simp (maxSteps:=9^9) [a8,aX.m,aX.b,aa,h2,r1,h3,r3,c5]
  subst c5;simp (maxSteps:=9^9) [a8,aX.m,aX.b,aa,h1,h2,r1,h3,r3]
 ·cases r3:kD 1 box 9999
  ·simp (maxSteps:=9^9) [a8,aX.m,aX.b,aa,h2,r1,h3,r3]
  by_cases c4:gid=0;rotate_left
  ·simp (maxSteps:=9^9) [a8,aX.m,aX.b,aa,h2,r1,h3,r3,c4]
  subst c4;by_cases c5:flags=0;rotate_left
  ·simp (maxSteps:=9^9) [a8,aX.m,aX.b,aa,h2,r1,h3,r3,c5]
  subst c5;simp (maxSteps:=9^9) [a8,aX.m,aX.b,aa,h1,h2,r1,h3,r3]
 ·cases r3:kD 1 box 9999
  ·simp (maxSteps:=9^9) [a8,aX.m,aX.b,aa,h2,r1,h3,r3]
  cases r4:kD 1 gid 9999
  ·simp (maxSteps:=9^9) [a8,aX.m,aX.b,aa,h2,r1,h3,r3,h4,r4]
  cases r5:kD 0 flags 7
  ·simp (maxSteps:=9^9) [a8,aX.m,aX.b,aa,h2,r1,h3,r3,h4,r4,h5,r5]
  simp (maxSteps:=9^9) [a8,aX.m,aX.b,aa,h1,h2,r1,h3,r3,h4,r4,h5,r5]
 ·cases r3:kD 1 box 9999
  ·simp (maxSteps:=9^9) [a8,aX.m,aX.b,aa,h2,r1,h3,r3]
  cases r4:kD 1 gid 9999
  ·simp (maxSteps:=9^9) [a8,aX.m,aX.b,aa,h2,r1,h3,r3,h4,r4]
  cases r5:kD 0 flags 7
  ·simp (maxSteps:=9^9) [a8,aX.m,aX.b,aa,h2,r1,h3,r3,h4,r4,h5,r5]
  simp (maxSteps:=9^9) [a8,aX.m,aX.b,aa,h1,h2,r1,h3,r3,h4,r4,h5,r5]
 ·cases r3:kD 1 box 9999
  ·simp (maxSteps:=9^9) [a8,aX.m,aX.b,aa,h2,r1,h3,r3]
  cases r4:kD 1 gid 9999
  ·simp (maxSteps:=9^9) [a8,aX.m,aX.b,aa,h2,r1,h3,r3,h4,r4]
  by_cases c5:flags=0;rotate_left
  ·simp (maxSteps:=9^9) [a8,aX.m,aX.b,aa,h2,r1,h3,r3,h4,r4,c5]
  subst c5;simp (maxSteps:=9^9) [a8,aX.m,aX.b,aa,h1,h2,r1,h3,r3,h4,r4]
 ·by_cases c3:box=0;rotate_left
  ·simp (maxSteps:=9^9) [a8,aX.m,aX.b,aa,h2,r1,c3]
  subst c3;by_cases c4:gid=0;rotate_left
  ·simp (maxSteps:=9^9) [a8,aX.m,aX.b,aa,h2,r1,c4]
  subst c4;by_cases c5:flags=0;rotate_left
  ·simp (maxSteps:=9^9) [a8,aX.m,aX.b,aa,h2,r1,c5]
  subst c5;simp (maxSteps:=9^9) [a8,aX.m,aX.b,aa,h1,h2,r1]
theorem B5(text:List UInt8):(decide ((bs text).toList=ByteArray.toList {data:= #[]}))=decide (text=[]):=by
 have e:=oo [];have e2:=oo text;simp only[bs] at e e2;simp only[bs,e2];exact congrArg (fun x=>decide (text=x)) e
theorem aP.al(h:aP.k M)(c:kP)(hl:c.text.length≤1048576):run M 59 [.a (dw c)] []=some (.c (.bool (jX c)),[]):=by
 obtain⟨h0,k1,k2,k3,k4⟩:=h;have h1:=bH.al k1 c.text hl;have h2:=ei.al k2 c.text (by omega);have h3:=gG.al k3 c.box;have h4:=gG.al k3 c.gid;have h5:=fV.al k4 c.flags;refine ao (b:=aP.m) h0 ⟨0, ?_⟩;unfold jX sS;simp only[aS] at h1;obtain⟨kind,box,gid,flags,text⟩:=c;simp only at*;have e:=B5 text;have e60:(text.length:Int)≤60↔text.length≤60:=by omega
 generalize gK text=rs at*;generalize nw text=nm at*;have q1:kD 1 1 7=true:=rfl;have q2:kD 1 2 7=true:=rfl;have q3:kD 1 3 7=true:=rfl;have q4:kD 1 4 7=true:=rfl;have q5:kD 1 5 7=true:=rfl;have q6:kD 1 6 7=true:=rfl;have q7:kD 1 7 7=true:=rfl;by_cases hk:kind=1∨kind=2∨kind=3∨kind=4∨kind=5∨kind=6∨kind=7;rotate_left
 ·have r1:kD 1 kind 7=false:=by
   rw[Bool.eq_false_iff];intro q;rw[i_] at q;omega
  simp only[not_or] at hk;cases r3:kD 1 box 9999<;>simp (maxSteps:=9^9) [a8,aP.m,aP.b,aa,setAt,h3,r1,r3,hk.1,hk.2.1,hk.2.2.1,hk.2.2.2.1,hk.2.2.2.2.1,hk.2.2.2.2.2.1,hk.2.2.2.2.2.2]
 cases r3:kD 1 box 9999
 ·by_cases k7:kind=7
  ·subst k7;cases b1:rs.2
   ·simp (maxSteps:=9^9) [a8,aP.m,aP.b,aa,setAt,h1,h3,r3,q7,b1]
   by_cases c3:box=0;rotate_left
   ·simp (maxSteps:=9^9) [a8,aP.m,aP.b,aa,setAt,h1,h3,r3,q7,b1,c3]
   subst c3;by_cases c4:gid=0;rotate_left
   ·simp (maxSteps:=9^9) [a8,aP.m,aP.b,aa,setAt,h1,h3,r3,q7,b1,c4]
   subst c4;by_cases c5:flags=0;rotate_left
   ·simp (maxSteps:=9^9) [a8,aP.m,aP.b,aa,setAt,h1,h3,r3,q7,b1,c5]
   subst c5;simp (maxSteps:=9^9) [a8,aP.m,aP.b,aa,setAt,h1,h3,r3,q7,b1]
  rcases hk with rfl|rfl|rfl|rfl|rfl|rfl|rfl
  ·simp (maxSteps:=9^9) [a8,aP.m,aP.b,aa,setAt,h3,r3,q1]
  ·simp (maxSteps:=9^9) [a8,aP.m,aP.b,aa,setAt,h3,r3,q2]
  ·simp (maxSteps:=9^9) [a8,aP.m,aP.b,aa,setAt,h3,r3,q3]
  ·simp (maxSteps:=9^9) [a8,aP.m,aP.b,aa,setAt,h3,r3,q4]
  ·simp (maxSteps:=9^9) [a8,aP.m,aP.b,aa,setAt,h3,r3,q5]
  ·simp (maxSteps:=9^9) [a8,aP.m,aP.b,aa,setAt,h3,r3,q6]
  ·exact absurd rfl k7
 rcases hk with rfl|rfl|rfl|rfl|rfl|rfl|rfl
 ·by_cases c4:gid=0;rotate_left
  ·simp (maxSteps:=9^9) [a8,aP.m,aP.b,aa,setAt,h3,r3,q1,c4]
  subst c4;by_cases c5:flags=0;rotate_left
  ·simp (maxSteps:=9^9) [a8,aP.m,aP.b,aa,setAt,h3,r3,q1,c5]
  subst c5;simp (maxSteps:=9^9) [a8,aP.m,aP.b,aa,setAt,h2,h3,r3,q1]
 ·by_cases c4:gid=0;rotate_left
  ·simp (maxSteps:=9^9) [a8,aP.m,aP.b,aa,setAt,h3,r3,q2,c4]
  subst c4;by_cases c5:flags=0;rotate_left
  ·simp (maxSteps:=9^9) [a8,aP.m,aP.b,aa,setAt,h3,r3,q2,c5]
  subst c5;simp (maxSteps:=9^9) [a8,aP.m,aP.b,aa,setAt,h2,h3,r3,q2]
 ·by_cases c4:gid=0;rotate_left
  ·simp (maxSteps:=9^9) [a8,aP.m,aP.b,aa,setAt,h3,r3,q3,c4]
  subst c4;by_cases c5:flags=0;rotate_left
  ·simp (maxSteps:=9^9) [a8,aP.m,aP.b,aa,setAt,h3,r3,q3,c5]
  subst c5;simp (maxSteps:=9^9) [a8,aP.m,aP.b,aa,setAt,h3,r3,q3]
 ·cases r4:kD 1 gid 9999
  ·simp (maxSteps:=9^9) [a8,aP.m,aP.b,aa,setAt,h3,h4,r3,r4,q4]
  cases r5:kD 0 flags 7
  ·simp (maxSteps:=9^9) [a8,aP.m,aP.b,aa,setAt,h3,h4,h5,r3,r4,r5,q4]
  simp (maxSteps:=9^9) [a8,aP.m,aP.b,aa,setAt,h3,h4,h5,r3,r4,r5,q4,e60]
 ·by_cases c6:text=[];rotate_left
  ·simp (maxSteps:=9^9) [a8,aP.m,aP.b,aa,setAt,h3,r3,q5,c6]
  cases r4:kD 1 gid 9999
  ·simp (maxSteps:=9^9) [a8,aP.m,aP.b,aa,setAt,h3,h4,r3,r4,q5,c6]
  cases r5:kD 0 flags 7
  ·simp (maxSteps:=9^9) [a8,aP.m,aP.b,aa,setAt,h3,h4,h5,r3,r4,r5,q5,c6]
  simp (maxSteps:=9^9) [a8,aP.m,aP.b,aa,setAt,h3,h4,h5,r3,r4,r5,q5,c6]
 ·by_cases c5:flags=0;rotate_left
  ·simp (maxSteps:=9^9) [a8,aP.m,aP.b,aa,setAt,h3,r3,q6,c5]
  subst c5;by_cases c6:text=[];rotate_left
  ·simp (maxSteps:=9^9) [a8,aP.m,aP.b,aa,setAt,h3,r3,q6,c6]
  cases r4:kD 1 gid 9999
  ·simp (maxSteps:=9^9) [a8,aP.m,aP.b,aa,setAt,h3,h4,r3,r4,q6,c6]
  simp (maxSteps:=9^9) [a8,aP.m,aP.b,aa,setAt,h3,h4,r3,r4,q6,c6]
 ·cases b1:rs.2
  ·simp (maxSteps:=9^9) [a8,aP.m,aP.b,aa,setAt,h1,h3,r3,q7,b1]
  by_cases c3:box=0
  ·subst c3;cases r3
  simp (maxSteps:=9^9) [a8,aP.m,aP.b,aa,setAt,h1,h3,r3,q7,b1,c3]
end Mx
namespace Mx
open Go
theorem lS{n:Int}(h:n<16384):(dE n).length≤3:=by
 have:=rh 2 n.toNat (by omega);simp[dE,iK];omega
theorem uj{n:Int}(h:n<2097152):(dE n).length≤4:=by
 have:=rh 3 n.toNat (by omega);simp[dE,iK];omega
theorem oV{n:Nat}(h:n<16384):(iK n).length≤3:=by
 have:=lS (n:=n) (by omega);simpa [dE] using this
theorem AX{l:List mB}(h:jZ l=true):∀r∈l,r.val≤1∧r.time≤100000∧r.eD≤2∧nQ r=true:=by
 intro r hr;simp only[jZ,ak,decide_eq_true_eq,b9,iN] at h;obtain⟨i,hi,e⟩:=bF hr;have:=h.1 i hi;rw[mY hi,e] at this;simp at this;have h2:=this.1;simp only[nQ,kz,ak,i_] at h2;exact⟨by omega,by omega,by omega,this.1⟩
theorem AG{m:bp}(h:iY m=true):(oa m).length≤100:=by
 have h0:=h;simp only[iY,ak,i_,decide_eq_true_eq] at h;obtain⟨⟨⟨h1,h2⟩,h3⟩,h4⟩:=h;have hf:=(oS h3).1;have:=lS (n:=m.gid) (by omega);have:=lS (n:=m.uid) (by omega);have h6:=kW vO m.flags 10 fun r hr=>by
  have:=AX h3 r hr;have:=lS (n:=r.val) (by omega);have:=uj (n:=r.time) (by omega);have:=lS (n:=r.eD) (by omega);simp[vO,texts];omega
 have h7:=oV (n:=m.text.length) (by omega);rw[hf] at h6;simp only[oa,kR,aC];have:(texts dE [m.gid,m.uid]).length≤6:=by simp[texts];omega
 omega
theorem CB{b:bz}(h:fQ b=true):(sB b).length≤1200:=by
 obtain⟨v1,v2,v3,v4,v5,v6,v7,v8,v9⟩:=jT h;simp only[fQ,ak,decide_eq_true_eq,i_] at h;obtain⟨⟨⟨⟨⟨⟨h1,h2⟩,h3⟩,h4⟩,h5⟩,h6⟩,h7⟩:=h;simp only[kz,ak,i_] at h3;have:=lS (n:=b.gid) (by omega);have:=uj (n:=b.time) (by omega);have:=lS (n:=b.eD) (by omega);have:=lS (n:=b.next) (by omega);have:=oV (n:=b.name.length) (by omega);have:=oV (n:=b.ae.length) (by omega);have:=oV (n:=b.gone.length) (by omega);have hg:=nM h6;have:=kW dE b.gone 3 fun n hn=>lS (by have:=hg.2 n hn;omega)
 have:=kW oa b.ae 100 fun m hm=>AG (v9 m hm)
 simp only[sB,xO,aC];omega
theorem ze{s:aW}(h:bu s=true):(storeT s).length≤7000:=by
 obtain⟨v1,v2,v3,v4,v5,v6,v7,v8⟩:=oM h;simp only[bu,ak,decide_eq_true_eq,i_] at h;obtain⟨⟨⟨⟨h1,h2⟩,h3⟩,h4⟩,h5⟩:=h;have:=lS (n:=s.eD) (by omega);have:=uj (n:=s.time) (by omega);have:=oV (n:=s.boxes.length) (by omega);have:=oV (n:=s.gone.length) (by omega);have hg:=nM h4;have:=kW dE s.gone 3 fun n hn=>lS (by have:=hg.2 n hn;omega)
 have:=kW sB s.boxes 1200 fun m hm=>CB (v6 m hm)
 simp only[storeT,oe,aC];omega
theorem tz{l:List UInt8}(h:(gK l).2=true):bu (gK l).1=true∧oh (storeT (gK l).1)=(l,true):=by
 rw[←u_] at h ⊢;unfold qu at h ⊢;cases hs:qm (gF l).1 (0,!(gF l).2) with
 |none=>rw[hs] at h;cases h
 |some r=>
  rw[hs] at h;simp only at h ⊢;split at h
  ·rename_i hc;rw[if_pos hc];obtain⟨h1,h2,h3⟩:=hc;cases hk:bu r.1
   ·simp only[iL,hk] at h2;cases h2
   ·simp only[iL,hk,if_true] at h2 h3;exact⟨rfl,Prod.ext h3 h2⟩
  ·cases h
theorem qX{l:List UInt8}(h:(gK l).2=true):l.length≤7004:=by
 obtain⟨h1,h2⟩:=tz h;have:=ze h1;unfold oh at h2;split at h2
 ·cases h2
 ·simp only[aU,and_true] at h2;rw[←h2];simp[xq];omega
end Mx
namespace Mx
open Go
variable {M:Nat→Option Body}
def mA(n:Int):UInt8:=UInt8.ofNat (n%256).toNat
theorem xL(n:Int):IntKind.u8.wrap n=((mA n).toNat:Int):=by
 unfold IntKind.wrap mA;simp[IntKind.bits,IntKind.signed];omega
def p_(c:kP):List UInt8:=mA c.kind::(dE c.box++(dE c.gid++(dE c.flags++(iK c.text.length++c.text))))
def jK(c:kP):List UInt8×Bool:=if jX c=true then(p_ c,true) else([],false)
theorem pB{c:kP}(h:jX c=true):isVar c.box∧isVar c.gid∧isVar c.flags∧1≤c.kind∧c.kind≤7:=by
 simp only[jX,ak,i_] at h;obtain⟨⟨⟨⟨h1,h2⟩,h3⟩,h4⟩,_⟩:=h;refine⟨?_, ?_, ?_,h1.1,h1.2⟩
 ·split at h2
  ·simp only[decide_eq_true_eq] at h2;exact⟨by omega,by omega⟩
  ·rw[i_] at h2;exact⟨by omega,by omega⟩
 ·split at h3
  ·rw[i_] at h3;exact⟨by omega,by omega⟩
  ·simp only[decide_eq_true_eq] at h3;exact⟨by omega,by omega⟩
 ·split at h4
  ·rw[i_] at h4;exact⟨by omega,by omega⟩
  ·simp only[decide_eq_true_eq] at h4;exact⟨by omega,by omega⟩
theorem Cs{c:kP}(h:jX c=true):c.text.length≤7004:=by
 simp only[jX,ak] at h;have h5:=h.2;unfold sS at h5;split at h5
 ·have:=mi h5;omega
 ·split at h5
  ·simp only[decide_eq_true_eq] at h5;omega
  ·split at h5
   ·exact qX h5
   ·simp only[decide_eq_true_eq] at h5;rw[h5];simp
theorem gL.al(h:gL.k M)(c:kP)(hl:c.text.length≤1048576):run M 67 [.a (dw c)] []=some (.lL [.c (S (jK c).1),.c (.bool (jK c).2)],[]):=by
 obtain⟨h0,k1,k2⟩:=h;have h1:=aX.al k1 c hl;refine ao (b:=gL.m) h0 ⟨0, ?_⟩;simp only[dw] at h1;unfold jK;cases ck:jX c
 ·rw[ck] at h1;simp (maxSteps:=9^9) [a8,gL.m,gL.b,aa,h1]
 rw[ck] at h1;obtain⟨v1,v2,v3,_⟩:=pB ck;have g1:=bG.int k2 c.box v1.1 (by have:=v1.2;omega);have g2:=bG.int k2 c.gid v2.1 (by have:=v2.2;omega);have g3:=bG.int k2 c.flags v3.1 (by have:=v3.2;omega);have g4:=bG.al k2 c.text.length (by omega);have l1:=da v1;have l2:=da v2;have l3:=da v3;have l4:=kL (n:=c.text.length) (by omega);have hb:=xL c.kind;have hr:lW [[U8 (mA c.kind).toNat]]=some [mA c.kind]:=qK [mA c.kind];have e1:=fT [mA c.kind] (dE c.box) (by simp;omega);have e2:=fT ([mA c.kind]++dE c.box) (dE c.gid) (by simp;omega);have e3:=fT ([mA c.kind]++dE c.box++dE c.gid) (dE c.flags) (by simp;omega);have e4:=fT ([mA c.kind]++dE c.box++dE c.gid++dE c.flags) (iK c.text.length) (by simp;omega);have e5:=fT ([mA c.kind]++dE c.box++dE c.gid++dE c.flags++iK c.text.length) c.text (by simp;omega);simp only[ct,List.cons_append,List.nil_append] at e1 e2 e3 e4 e5;simp only[bs] at e1;simp (maxSteps:=9^9) [a8,gL.m,gL.b,aa,h1,g1,g2,g3,g4,hb,hr,e1,e2,e3,e4,e5,p_]
theorem JQ(a b c:Int):texts dE [a,b,c]=dE a++(dE b++dE c):=by simp[texts]
theorem gw.al(h:gw.k M)(c:kP)(hl:c.text.length≤1048576):run M 68 [.a (dw c)] []=some (.lL [.c (S (jK c).1),.c (.bool (jK c).2)],[]):=by
 obtain⟨h0,k1,k2,k3⟩:=h;have h1:=aP.al k1 c hl;refine ao (b:=gw.m) h0 ⟨0, ?_⟩;simp only[dw] at h1;unfold jK;cases ck:jX c
 ·rw[ck] at h1;simp (maxSteps:=9^9) [a8,gw.m,gw.b,aa,h1]
 rw[ck] at h1;obtain⟨v1,v2,v3,_⟩:=pB ck;have hlen:=Cs ck;have g1:=ji.al k3 [c.box,c.gid,c.flags] (by simp) (by simp;exact⟨v1,v2,v3⟩);have g2:=jQ.al k2 c.text (by omega);have l1:=da v1;have l2:=da v2;have l3:=da v3;have l4:=kL (n:=c.text.length) (by omega);have hb:=xL c.kind;have hr:lW [[U8 (mA c.kind).toNat]]=some [mA c.kind]:=qK [mA c.kind];rw[JQ] at g1;simp only[ints,ax,bB,bJ] at g1;have e1:=fT [mA c.kind] (dE c.box++(dE c.gid++dE c.flags)) (by simp;omega);have e2:=fT ([mA c.kind]++(dE c.box++(dE c.gid++dE c.flags))) (kR c.text) (by simp[kR];omega);simp only[ct,List.cons_append,List.nil_append] at e1 e2;simp only[bs] at e1;simp (maxSteps:=9^9) [a8,gw.m,gw.b,aa,h1,g1,g2,hb,hr,e1,e2,p_];simp[kR]
def qY:kP:=⟨0,0,0,0,[]⟩
def pn(l:List UInt8)(k:Int):kP×iX:=
 let b:=cvar l (1,false)
 let g:=cvar l b.2
 let f:=cvar l g.2
 let t:=g_ l f.2
 (⟨k,b.1,g.1,f.1,t.1⟩,t.2)
def iB(l:List UInt8):kP×Bool:=match l with
 |[]=>(qY,false)
 |k::_=>if(pn l k.toNat).2.2=false∧(pn l k.toNat).2.1=l.length∧jX (pn l k.toNat).1=true then((pn l k.toNat).1,true) else(qY,false)
theorem vE(k:UInt8):IntKind.i64.wrap (k.toNat:Int)=(k.toNat:Int):=by
 have:=k.toNat_lt;exact wrap_i64 (by omega) (by omega)
theorem Da(l:List UInt8):kH .eql (bs l) {data:= #[]}=some (.bool (decide (l=[]))):=zd l []
theorem eR.al(h:eR.k M)(l:List UInt8)(hl:l.length≤1048576):run M 65 [.c (S l)] []=some (.lL [.a (dw (iB l).1),.c (.bool (iB l).2)],[]):=by
 obtain⟨h0,k1,k2,k3⟩:=h;refine ao (b:=eR.m) h0 ⟨0, ?_⟩;have e:=Da l;cases l with
 |nil=>simp (maxSteps:=9^9) [a8,eR.m,eR.b,aa,setAt,e,iB,qY]
 |cons k l=>
  have hl2:(k::l).length≤4611686018427387904:=by omega
  have h1:=bS.at k2 (k::l) hl2 1 false;have h2:=bS.al k2 (k::l) hl2 (cvar (k::l) (1,false)).2;have h3:=bS.al k2 (k::l) hl2 (cvar (k::l) (cvar (k::l) (1,false)).2).2;have h4:=eH.al k3 (k::l) hl2 (cvar (k::l) (cvar (k::l) (cvar (k::l) (1,false)).2).2).2;have hlen:=qJ (k::l) (cvar (k::l) (cvar (k::l) (cvar (k::l) (1,false)).2).2).2;have e0:pn (k::l) k.toNat=(⟨k.toNat,(cvar (k::l) (1,false)).1,(cvar (k::l) (cvar (k::l) (1,false)).2).1,(cvar (k::l) (cvar (k::l) (cvar (k::l) (1,false)).2).2).1,(g_ (k::l) (cvar (k::l) (cvar (k::l) (cvar (k::l) (1,false)).2).2).2).1⟩,(g_ (k::l) (cvar (k::l) (cvar (k::l) (cvar (k::l) (1,false)).2).2).2).2):=rfl;simp only[iB];rw[e0];clear e0;have ew:=vE k;have eg:(bs (k::l))[0]'(by simp)=k:=by rw[jS];rfl
  generalize cvar (k::l) (1,false)=q1 at*;generalize cvar (k::l) q1.2=q2 at*;generalize cvar (k::l) q2.2=q3 at*;generalize g_ (k::l) q3.2=q4 at*;have h5:=aP.al k1 ⟨k.toNat,q1.1,q2.1,q3.1,q4.1⟩ (by simp only;omega);simp only[dw] at h5;generalize jX _=ok at*;cases c2:q4.2.2;rotate_left
  ·simp (maxSteps:=9^9) [a8,eR.m,eR.b,aa,jS,setAt,e,ew,h1,h2,h3,h4,c2,qY]
  by_cases c3:q4.2.1=((k::l).length:Int);rotate_left
  ·simp at c3;simp (maxSteps:=9^9) [a8,eR.m,eR.b,aa,jS,setAt,e,ew,h1,h2,h3,h4,c2,c3,qY]
  simp at c3;cases ok<;>simp (maxSteps:=9^9) [a8,eR.m,eR.b,aa,jS,setAt,e,ew,h1,h2,h3,h4,h5,c2,c3,qY]
theorem fh.al(h:fh.k M)(l:List UInt8)(hl:l.length≤1048576):run M 64 [.c (S l)] []=some (.lL [.a (dw (iB l).1),.c (.bool (iB l).2)],[]):=by
 obtain⟨h0,k1,k2,k3⟩:=h;refine ao (b:=fh.m) h0 ⟨0, ?_⟩;have e:=Da l;cases l with
 |nil=>simp (maxSteps:=9^9) [a8,fh.m,fh.b,aa,setAt,e,iB,qY]
 |cons k l=>
  have hl2:(k::l).length≤4611686018427387904:=by omega
  have h1:=cq.at k2 (k::l) hl2 1 false;have h2:=cq.al k2 (k::l) hl2 (cvar (k::l) (1,false)).2;have h3:=cq.al k2 (k::l) hl2 (cvar (k::l) (cvar (k::l) (1,false)).2).2;have h4:=fZ.al k3 (k::l) hl2 (cvar (k::l) (cvar (k::l) (cvar (k::l) (1,false)).2).2).2;have hlen:=qJ (k::l) (cvar (k::l) (cvar (k::l) (cvar (k::l) (1,false)).2).2).2;have e0:pn (k::l) k.toNat=(⟨k.toNat,(cvar (k::l) (1,false)).1,(cvar (k::l) (cvar (k::l) (1,false)).2).1,(cvar (k::l) (cvar (k::l) (cvar (k::l) (1,false)).2).2).1,(g_ (k::l) (cvar (k::l) (cvar (k::l) (cvar (k::l) (1,false)).2).2).2).1⟩,(g_ (k::l) (cvar (k::l) (cvar (k::l) (cvar (k::l) (1,false)).2).2).2).2):=rfl;simp only[iB];rw[e0];clear e0;have ew:=vE k;have eg:(bs (k::l))[0]'(by simp)=k:=by rw[jS];rfl
  generalize cvar (k::l) (1,false)=q1 at*;generalize cvar (k::l) q1.2=q2 at*;generalize cvar (k::l) q2.2=q3 at*;generalize g_ (k::l) q3.2=q4 at*;have h5:=aX.al k1 ⟨k.toNat,q1.1,q2.1,q3.1,q4.1⟩ (by simp only;omega);simp only[dw] at h5;generalize jX _=ok at*;cases c2:q4.2.2;rotate_left
  ·simp (maxSteps:=9^9) [a8,fh.m,fh.b,aa,jS,setAt,e,ew,h1,h2,h3,h4,c2,qY]
  by_cases c3:q4.2.1=((k::l).length:Int);rotate_left
  ·simp at c3;simp (maxSteps:=9^9) [a8,fh.m,fh.b,aa,jS,setAt,e,ew,h1,h2,h3,h4,c2,c3,qY]
  simp at c3;cases ok<;>simp (maxSteps:=9^9) [a8,fh.m,fh.b,aa,jS,setAt,e,ew,h1,h2,h3,h4,h5,c2,c3,qY]
end Mx
namespace Mx
open Go
attribute [-simp] cy step nG mq pI pZ jk
variable {M:Nat→Option Body}
def w8(s t:aW):aW×Bool:=if t.eD=s.eD∨lx s t=false then(s,false) else(dB s t,true)
def lG(s:aW)(c:kP):aW×Bool:=
 if jX c=false then(s,false) else
 if c.kind=1 then lN s c.box c.text else if c.kind=2 then jV s c.box c.text else if c.kind=3 then lO s c.box else
 if c.kind=4 then lM s c.box c.gid c.flags c.text else if c.kind=5 then kM s c.box c.gid c.flags else if c.kind=6 then kN s c.box c.gid else
 w8 s (gK c.text).1
theorem sG(l:List UInt8):iI (gK l).1:=by
 cases h:(gK l).2 with
 |true=>exact(nR (tz h).1).kU
 |false=>
  have:(gK l).1=k_:=by
   unfold gK at h ⊢;split
   ·rename_i c;rw[if_pos c] at h;cases h
   ·rfl
  rw[this];exact⟨by simp[k_],by simp[k_],by simp[k_],by simp[k_]⟩
theorem cX.al(h:cX.k M)(s:aW)(hs:m7 s)(c:kP)(hc:c.text.length≤1048576):
  run M 469 [.a (ai s),.a (dw c)] []=some (.lL [.a (ai (lG s c).1),.c (.bool (lG s c).2)],[]):=by
 obtain⟨h0,kco,krs,kcs,kmb,kpm,krb,kdb,kmm,kdm,kfs,kjs⟩:=h;have h1:=aP.al kco c hc;have h2:=cr.al kcs s hs.kU;have e1:=dh.al kmb s hs c.box c.text hc;have e2:=ec.al krb s hs c.box c.text hc;have e3:=fX.al kdb s hs c.box;have e4:=fq.al kpm s hs c.box c.gid c.flags c.text;have e5:=fk.al kmm s hs c.box c.gid c.flags;have e6:=fm.al kdm s hs c.box c.gid;have h3:=bH.al krs c.text hc;have hri:=sG c.text;have h4:=fw.al kfs s (gK c.text).1 hs.kU hri;refine ao (b:=cX.m) h0 ⟨0, ?_⟩;unfold lG;cases ck:jX c with
 |false=>
  rw[ck] at h1;rw[if_pos rfl];simp only[ai,aS,boxes,ints] at h1 h2 ⊢;generalize s.boxes.map af=rb at*;generalize ax s.gone=rs at*;simp (maxSteps:=9^9) [a8,cX.m,cX.b,ab,setAt,h1,h2]
 |true=>
  rw[ck] at h1;rw[if_neg (by simp)];by_cases k1:c.kind=1
  ·rw[if_pos k1];simp only[dw,k1] at h1;generalize lN s c.box c.text=y at*;obtain⟨y,o⟩:=y;simp only[ai,boxes,ints] at h1 e1 ⊢;generalize y.boxes.map af=yb at*;generalize ax y.gone=ys at*;generalize s.boxes.map af=rb at*;generalize ax s.gone=rs at*;simp (maxSteps:=9^9) [a8,cX.m,cX.b,ab,setAt,h1,e1,k1]
  rw[if_neg k1];by_cases k2:c.kind=2
  ·rw[if_pos k2];simp only[dw,k2] at h1;generalize jV s c.box c.text=y at*;obtain⟨y,o⟩:=y;simp only[ai,boxes,ints] at h1 e2 ⊢;generalize y.boxes.map af=yb at*;generalize ax y.gone=ys at*;generalize s.boxes.map af=rb at*;generalize ax s.gone=rs at*;simp (maxSteps:=9^9) [a8,cX.m,cX.b,ab,setAt,h1,e2,k2]
  rw[if_neg k2];by_cases k3:c.kind=3
  ·rw[if_pos k3];simp only[dw,k3] at h1;generalize lO s c.box=y at*;obtain⟨y,o⟩:=y;simp only[ai,boxes,ints] at h1 e3 ⊢;generalize y.boxes.map af=yb at*;generalize ax y.gone=ys at*;generalize s.boxes.map af=rb at*;generalize ax s.gone=rs at*;simp (maxSteps:=9^9) [a8,cX.m,cX.b,ab,setAt,h1,e3,k3]
  rw[if_neg k3];by_cases k4:c.kind=4
  ·rw[if_pos k4];simp only[dw,k4] at h1;generalize lM s c.box c.gid c.flags c.text=y at*;obtain⟨y,o⟩:=y;simp only[ai,boxes,ints] at h1 e4 ⊢;generalize y.boxes.map af=yb at*;generalize ax y.gone=ys at*;generalize s.boxes.map af=rb at*;generalize ax s.gone=rs at*;simp (maxSteps:=9^9) [a8,cX.m,cX.b,ab,setAt,h1,e4,k4]
  rw[if_neg k4];by_cases k5:c.kind=5
  ·rw[if_pos k5];simp only[dw,k5] at h1;generalize kM s c.box c.gid c.flags=y at*;obtain⟨y,o⟩:=y;simp only[ai,boxes,ints] at h1 e5 ⊢;generalize y.boxes.map af=yb at*;generalize ax y.gone=ys at*;generalize s.boxes.map af=rb at*;generalize ax s.gone=rs at*;simp (maxSteps:=9^9) [a8,cX.m,cX.b,ab,setAt,h1,e5,k5]
  rw[if_neg k5];by_cases k6:c.kind=6
  ·rw[if_pos k6];simp only[dw,k6] at h1;generalize kN s c.box c.gid=y at*;obtain⟨y,o⟩:=y;simp only[ai,boxes,ints] at h1 e6 ⊢;generalize y.boxes.map af=yb at*;generalize ax y.gone=ys at*;generalize s.boxes.map af=rb at*;generalize ax s.gone=rs at*;simp (maxSteps:=9^9) [a8,cX.m,cX.b,ab,setAt,h1,e6,k6]
  rw[if_neg k6];generalize (gK c.text).1=t at*;generalize (gK c.text).2=r2 at*;unfold w8;by_cases w:t.eD=s.eD
  ·rw[if_pos (.inl w)];have w':t.eD=s.eD:=w;simp only[ai,aS,boxes,ints] at h1 h2 h3 ⊢;generalize t.boxes.map af=tb at*;generalize ax t.gone=ts at*;generalize s.boxes.map af=rb at*;generalize ax s.gone=rs at*;simp (maxSteps:=9^9) [a8,cX.m,cX.b,ab,setAt,h1,h2,h3,k1,k2,k3,k4,k5,k6,w]
  cases ft:lx s t with
  |false=>
   rw[if_pos (.inr rfl)];rw[ft] at h4;simp only[ai,aS,boxes,ints] at h1 h2 h3 h4 ⊢;generalize t.boxes.map af=tb at*;generalize ax t.gone=ts at*;generalize s.boxes.map af=rb at*;generalize ax s.gone=rs at*;simp (maxSteps:=9^9) [a8,cX.m,cX.b,ab,setAt,h1,h2,h3,h4,k1,k2,k3,k4,k5,k6,w]
  |true=>
   rw[if_neg (by simp[w])];rw[ft] at h4;unfold lx at ft;simp only[ak] at ft;have h5:=bE.al kjs s t (eT ft.1.1) (eT ft.1.2);have jw:(dB s t).eD=s.eD:=rfl;have jt:(dB s t).time=Max.max s.time t.time:=rfl;clear ft;generalize dB s t=J at*;simp only[ai,aS,boxes,ints,jw,jt] at h1 h2 h3 h4 h5 ⊢;generalize Max.max s.time t.time=tm at*;generalize J.boxes.map af=jb at*;generalize ax J.gone=js at*;generalize t.boxes.map af=tb at*;generalize ax t.gone=ts at*;generalize s.boxes.map af=rb at*;generalize ax s.gone=rs at*;simp (maxSteps:=9^9) [a8,cX.m,cX.b,ab,setAt,h1,h3,h4,h5,k1,k2,k3,k4,k5,k6,w]
theorem cW.al(h:cW.k M)(s:aW)(hs:m7 s)(c:kP)(hc:c.text.length≤1048576):
  run M 468 [.a (ai s),.a (dw c)] []=some (.lL [.a (ai (lG s c).1),.c (.bool (lG s c).2)],[]):=by
 obtain⟨h0,kco,krs,kcs,kmb,kpm,kmm,kdm,krb,kdb,kfs,kjs⟩:=h;have h1:=aX.al kco c hc;have h2:=cd.al kcs s hs.kU;have e1:=bZ.al kmb s hs c.box c.text hc;have e2:=cK.al krb s hs c.box c.text hc;have e3:=dK.al kdb s hs c.box;have e4:=dI.al kpm s hs c.box c.gid c.flags c.text;have e5:=dy.al kmm s hs c.box c.gid c.flags;have e6:=dz.al kdm s hs c.box c.gid;have h3:=bo.al krs c.text hc;have hri:=sG c.text;have h4:=fu.al kfs s (gK c.text).1 hs.kU hri;refine ao (b:=cW.m) h0 ⟨0, ?_⟩;unfold lG;cases ck:jX c with
 |false=>
  rw[ck] at h1;rw[if_pos rfl];simp only[ai,aS,boxes,ints] at h1 h2 ⊢;generalize s.boxes.map af=rb at*;generalize ax s.gone=rs at*;simp (maxSteps:=9^9) [a8,cW.m,cW.b,ab,setAt,h1,h2]
 |true=>
  rw[ck] at h1;rw[if_neg (by simp)];by_cases k1:c.kind=1
  ·rw[if_pos k1];simp only[dw,k1] at h1;generalize lN s c.box c.text=y at*;obtain⟨y,o⟩:=y;simp only[ai,aS,boxes,ints] at h1 e1 ⊢;generalize y.boxes.map af=yb at*;generalize ax y.gone=ys at*;generalize s.boxes.map af=rb at*;generalize ax s.gone=rs at*;simp (maxSteps:=9^9) [a8,cW.m,cW.b,ab,setAt,h1,e1,k1]
  rw[if_neg k1];by_cases k2:c.kind=2
  ·rw[if_pos k2];simp only[dw,k2] at h1;generalize jV s c.box c.text=y at*;obtain⟨y,o⟩:=y;simp only[ai,aS,boxes,ints] at h1 e2 ⊢;generalize y.boxes.map af=yb at*;generalize ax y.gone=ys at*;generalize s.boxes.map af=rb at*;generalize ax s.gone=rs at*;simp (maxSteps:=9^9) [a8,cW.m,cW.b,ab,setAt,h1,e2,k2]
  rw[if_neg k2];by_cases k3:c.kind=3
  ·rw[if_pos k3];simp only[dw,k3] at h1;generalize lO s c.box=y at*;obtain⟨y,o⟩:=y;simp only[ai,aS,boxes,ints] at h1 e3 ⊢;generalize y.boxes.map af=yb at*;generalize ax y.gone=ys at*;generalize s.boxes.map af=rb at*;generalize ax s.gone=rs at*;simp (maxSteps:=9^9) [a8,cW.m,cW.b,ab,setAt,h1,e3,k3]
  rw[if_neg k3];by_cases k4:c.kind=4
  ·rw[if_pos k4];simp only[dw,k4] at h1;generalize lM s c.box c.gid c.flags c.text=y at*;obtain⟨y,o⟩:=y;simp only[ai,aS,boxes,ints] at h1 e4 ⊢;generalize y.boxes.map af=yb at*;generalize ax y.gone=ys at*;generalize s.boxes.map af=rb at*;generalize ax s.gone=rs at*;simp (maxSteps:=9^9) [a8,cW.m,cW.b,ab,setAt,h1,e4,k4]
  rw[if_neg k4];by_cases k5:c.kind=5
  ·rw[if_pos k5];simp only[dw,k5] at h1;generalize kM s c.box c.gid c.flags=y at*;obtain⟨y,o⟩:=y;simp only[ai,aS,boxes,ints] at h1 e5 ⊢;generalize y.boxes.map af=yb at*;generalize ax y.gone=ys at*;generalize s.boxes.map af=rb at*;generalize ax s.gone=rs at*;simp (maxSteps:=9^9) [a8,cW.m,cW.b,ab,setAt,h1,e5,k5]
  rw[if_neg k5];by_cases k6:c.kind=6
  ·rw[if_pos k6];simp only[dw,k6] at h1;generalize kN s c.box c.gid=y at*;obtain⟨y,o⟩:=y;simp only[ai,aS,boxes,ints] at h1 e6 ⊢;generalize y.boxes.map af=yb at*;generalize ax y.gone=ys at*;generalize s.boxes.map af=rb at*;generalize ax s.gone=rs at*;simp (maxSteps:=9^9) [a8,cW.m,cW.b,ab,setAt,h1,e6,k6]
  rw[if_neg k6];generalize (gK c.text).1=t at*;generalize (gK c.text).2=r2 at*;unfold w8;by_cases w:t.eD=s.eD
  ·rw[if_pos (.inl w)];have w':t.eD=s.eD:=w;simp only[ai,aS,boxes,ints] at h1 h2 h3 ⊢;generalize t.boxes.map af=tb at*;generalize ax t.gone=ts at*;generalize s.boxes.map af=rb at*;generalize ax s.gone=rs at*;simp (maxSteps:=9^9) [a8,cW.m,cW.b,ab,setAt,h1,h2,h3,k1,k2,k3,k4,k5,k6,w]
  cases ft:lx s t with
  |false=>
   rw[if_pos (.inr rfl)];rw[ft] at h4;simp only[ai,aS,boxes,ints] at h1 h2 h3 h4 ⊢;generalize t.boxes.map af=tb at*;generalize ax t.gone=ts at*;generalize s.boxes.map af=rb at*;generalize ax s.gone=rs at*;simp (maxSteps:=9^9) [a8,cW.m,cW.b,ab,setAt,h1,h2,h3,h4,k1,k2,k3,k4,k5,k6,w]
  |true=>
   rw[if_neg (by simp[w])];rw[ft] at h4;unfold lx at ft;simp only[ak] at ft;have h5:=bN.al kjs s t (eT ft.1.1) (eT ft.1.2);have jw:(dB s t).eD=s.eD:=rfl;have jt:(dB s t).time=Max.max s.time t.time:=rfl;clear ft;generalize dB s t=J at*;simp only[ai,aS,boxes,ints,jw,jt] at h1 h2 h3 h4 h5 ⊢;generalize Max.max s.time t.time=tm at*;generalize J.boxes.map af=jb at*;generalize ax J.gone=js at*;generalize t.boxes.map af=tb at*;generalize ax t.gone=ts at*;generalize s.boxes.map af=rb at*;generalize ax s.gone=rs at*;simp (maxSteps:=9^9) [a8,cW.m,cW.b,ab,setAt,h1,h3,h4,h5,k1,k2,k3,k4,k5,k6,w]
end Mx
namespace Mx
open Go
variable {M:Nat→Option Body}
structure Mh where
 i:Nat
 l:List UInt8
 v:Nat
 ic:Nat
 q:Int
 n:Nat
def LM(R:List (List T))(s:Mh):List (Nat×Ob):=[dv R s.ic s.q,(9,⟨s.v,1,true,false,lq s.l⟩)]
def zE(R:List (List T))(m:Nat)(s:Mh):St:={t:=[(0,.c (.ptr 0 0 0 0)),(1,.c (I m)),(5,.c (.row 9 s.v 0 s.l.length)),(6,.c (I s.i))],o:=LM R s,n:=s.n}
def HX(R:List (List T))(m:Nat)(s:Mh):St:={t:=[(0,.c (.ptr 0 0 0 0)),(1,.c (I m)),(5,.c (.row 9 s.v 0 s.l.length)),(6,.c (I s.i)),(12,.c (.bool false))],o:=LM R s,n:=s.n}
theorem HY(kb:eW.k M){R:List (List T)}(hR:Bytes R)(k m:Nat)(s:Mh)(hm:m≤5000)(hi:s.i<m)(hl:s.l.length=s.i)(hc:s.ic≤R.length):
  ∃s',cy (run M) k eV.l0 (zE R m s)=some (.normal,zE R m s')∧s'.i=s.i+1∧s'.l.length=s'.i∧s'.ic≤R.length:=by
 obtain⟨i,l,v,ic,q,n⟩:=s;simp only at hi hl hc;obtain⟨x,ic1,q1,hx,hc1,h1⟩:=eW.al kb hR ic q hc;have hi':(i:Int)<m:=by omega
 have e5:=cz (i:=i) (by omega);have e6:IntKind.u8.wrap (x:Int)=(x:Int):=by unfold IntKind.wrap;simp[IntKind.bits,IntKind.signed];omega
 have hb:lq (l++[UInt8.ofNat x])=lq l++[[.int .u8 (x:Int)]]:=by
  have:(UInt8.ofNat x).toNat=x:=by rw[UInt8.toNat_ofNat'];omega
  simp[lq,this]
 have hbl:=xM l;have h2:l.length+1≤4294967296:=by omega
 suffices hh:∃v' n',cy (run M) k eV.l0 (zE R m ⟨i,l,v,ic,q,n⟩)=some (.normal,zE R m ⟨i+1,l++[UInt8.ofNat x],v',ic1,q1,n'⟩) by
  obtain⟨v',n',hh⟩:=hh;exact⟨_,hh,rfl,by simp[hl],hc1⟩
 simp only[zE,LM,hb,aC,bT,eJ];generalize lq l=rl at*;simp (maxSteps:=9^9) [eV.l0,h1,hi',e5,e6,hbl,h2,ab]
theorem Kj{R:List (List T)}(k m:Nat)(s:Mh)(hi:¬s.i<m):∃n',cy (run M) k eV.l0 (zE R m s)=some (.exit 0,HX R m {s with n:=n'}):=by
 obtain⟨i,l,v,ic,q,n⟩:=s;simp only at hi;have hi':¬(i:Int)<m:=by omega
 simp only[zE,HX,LM];generalize lq l=rl at*;simp (maxSteps:=9^9) [eV.l0,hi']
theorem eV.al(h:eV.k M){R:List (List T)}(hR:Bytes R)(i:Nat)(q:Int)(hi:i≤R.length)(m:Nat)(hm:m≤5000):
  ∃(s:List UInt8) (i':Nat) (q':Int),s.length=m∧i'≤R.length∧run M 465 [.c (.ptr 0 0 0 0),.c (I m)] [dv R i q]=some (.c (S s),[dv R i' q']):=by
 obtain⟨h0,kb⟩:=h;obtain⟨r,hr,⟨⟨i1,l,v,ic,q1,n⟩,rfl,hl,hc⟩⟩:=kC (f:=cy (run M) (m+1) eV.l0) (zE R m) (fun s=>s.i≤m∧s.l.length=s.i∧s.ic≤R.length) (fun s=>m-s.i) (fun r=>∃s,r=(.exit 0,HX R m s)∧s.l.length=m∧s.ic≤R.length)
  (fun s hs=>by
   obtain⟨h1,h2,h3⟩:=hs;by_cases c:s.i<m
   ·left;obtain⟨s',k1,k2,k3,k4⟩:=HY kb hR (m+1) m s hm c h2 h3;exact⟨s',k1,⟨by omega,k3,k4⟩,by omega⟩
   ·right;obtain⟨n',k1⟩:=Kj (M:=M) (R:=R) (m+1) m s c;exact⟨_,k1,by simp,_,rfl,by simp only;omega,h3⟩) (m+1) ⟨0,[],2000048,i,q,2000096⟩ ⟨by simp,rfl,hi⟩ (by simp)
 simp only at hl hc;refine⟨l,ic,q1,hl,hc,ao (b:=eV.m) h0 ⟨m+1, ?_⟩⟩;have e0:((0:Nat):Int)=0:=rfl;have eb:lq []=[]:=rfl;have c1:¬(5000:Int)<m:=by omega
 have c2:¬5000<m:=by omega
 have c6:lW (lq l)=some l:=qK l;have hbl:=xM l;simp only[zE,HX,LM,e0,eb,eJ] at hr;generalize lq l=rl at*;simp (maxSteps:=9^9) [a8,eV.m,eV.b,aa,hr,c1,c6,hbl,ab]
theorem cg.al(h:cg.k M){R:List (List T)}(hR:Bytes R)(i:Nat)(q:Int)(hi:i≤R.length)(s:List UInt8)(hs:s.length≤1000000):
  ∃(t:List UInt8) (i':Nat) (q':Int),t.length≤s.length+1∧i'≤R.length∧run M 444 [.c (.ptr 0 0 0 0),.c (S s)] [dv R i q]=some (.c (S t),[dv R i' q']):=by
 obtain⟨h0,kb,kt⟩:=h;obtain⟨x,i1,q1,hx,hc1,h1⟩:=aG.al kb hR i q hi 12 (by omega) (by omega);simp only[aM] at h1;by_cases c0:x=0
 ·subst c0;obtain⟨t,i2,q2,ht,hc2,h2⟩:=eV.al kt hR i1 q1 hc1 1 (by omega);have e0:((0:Nat):Int)=0:=rfl;have e1:((1:Nat):Int)=1:=rfl;simp only[e0] at h1;simp only[e1] at h2;refine⟨s++t,i2,q2,by simp;omega,hc2,ao (b:=cg.m) h0 ⟨0, ?_⟩⟩;simp (maxSteps:=9^9) (disch:=(first|omega|(simp;done)|(simp;omega))) [a8,cg.m,cg.b,aa,fT,h1,h2]
 have d0:¬(x:Int)=0:=by omega
 by_cases c1:x=1
 ·subst c1;obtain⟨y,i2,q2,hy,hc2,h2⟩:=aG.al kb hR i1 q1 hc1 (s.length+1) (by omega) (by omega);have e1:((1:Nat):Int)=1:=rfl;have e2:((s.length+1:Nat):Int)=(s.length:Int)+1:=by omega
  have e5:=cz (i:=s.length) (by omega);simp only[e1] at h1;rw[e2] at h2;have hy':y≤s.length:=by omega
  refine⟨s.take y,i2,q2,by simp;omega,hc2,ao (b:=cg.m) h0 ⟨0, ?_⟩⟩;simp (maxSteps:=9^9) (disch:=(first|omega|(simp;done)|(simp;omega))) [a8,cg.m,cg.b,aa,h1,h2,e5,hy']
 have d1:¬(x:Int)=1:=by omega
 by_cases c2:(x=2∨x=3)∧s≠[]
 ·obtain⟨c2,hne⟩:=c2;have hl:0<s.length:=List.length_pos_iff.2 hne;obtain⟨y,i2,q2,hy,hc2,h2⟩:=aG.al kb hR i1 q1 hc1 s.length hl (by omega);obtain⟨t,i3,q3,ht,hc3,h3⟩:=eV.al kt hR i2 q2 hc2 1 (by omega);have e1:((1:Nat):Int)=1:=rfl;simp only[e1] at h3;have e5:=cz (i:=y) (by omega);have hy1:y≤s.length:=by omega
  have hy2:y+1≤s.length:=by omega
  have e6:((y:Int)+1).toNat=y+1:=by omega
  have e7:(0:Int)≤(y:Int)+1:=by omega
  obtain⟨A,gA⟩:∃A,s.take y=A:=⟨_,rfl⟩
  obtain⟨B,gB⟩:∃B,s.drop (y+1)=B:=⟨_,rfl⟩
  have lA:A.length=y:=by rw[←gA];simp;omega
  have lB:B.length=s.length-(y+1):=by rw[←gB];simp
  have k1:A.length+t.length≤4611686018427387904:=by omega
  have k2:A.length+t.length+B.length≤4611686018427387904:=by omega
  have k3:A.length+(t.length+B.length)≤4611686018427387904:=by omega
  have lt:(A++t++B).length≤s.length+1:=by simp;omega
  refine⟨A++t++B,i3,q3,lt,hc3,ao (b:=cg.m) h0 ⟨0, ?_⟩⟩;clear lt lA lB ht hR;rcases c2 with rfl|rfl
  ·have e2:((2:Nat):Int)=2:=rfl;simp only[e2] at h1;simp (maxSteps:=9^9) [a8,cg.m,cg.b,aa,h1,h2,h3,hl,e5,e6,e7,hy1,hy2,gA,gB,k1,k2]
  ·have e2:((3:Nat):Int)=3:=rfl;simp only[e2] at h1;simp (maxSteps:=9^9) [a8,cg.m,cg.b,aa,h1,h2,h3,hl,e5,e6,e7,hy1,hy2,gA,gB,k1,k2]
 refine⟨s,i1,q1,by omega,hc1,ao (b:=cg.m) h0 ⟨0, ?_⟩⟩;by_cases c3:x=2∨x=3
 ·have hne:s=[]:=by
   rcases Classical.em (s=[]) with z|z
   ·exact z
   ·exact(c2 ⟨c3,z⟩).elim
  subst hne;rcases c3 with rfl|rfl
  ·have e2:((2:Nat):Int)=2:=rfl;simp only[e2] at h1;simp (maxSteps:=9^9) (disch:=(first|omega|(simp;done)|(simp;omega))) [a8,cg.m,cg.b,aa,h1]
  ·have e2:((3:Nat):Int)=3:=rfl;simp only[e2] at h1;simp (maxSteps:=9^9) (disch:=(first|omega|(simp;done)|(simp;omega))) [a8,cg.m,cg.b,aa,h1]
 ·have d2:¬(x:Int)=2:=by omega
  have d3:¬(x:Int)=3:=by omega
  have k2:¬x=2:=by omega
  have k3:¬x=3:=by omega
  simp (maxSteps:=9^9) (disch:=(first|omega|(simp;done)|(simp;omega))) [a8,cg.m,cg.b,aa,h1,c0,d1,d2,d3]
def vV(a b:aW):Bool:=decide (a.eD=b.eD)&&decide (a.time=b.time)&&alike a b
theorem gk.al(h:gk.k M)(a b:aW)(ha:mo a):run M 421 [.a (ai a),.a (ai b)] []=some (.c (.bool (vV a b)),[]):=by
 obtain⟨h0,ka⟩:=h;have h1:=df.al ka a b ha;refine ao (b:=gk.m) h0 ⟨0, ?_⟩;unfold vV;generalize alike a b=z at*;simp only[ai,boxes,ints] at h1 ⊢;generalize a.boxes.map af=ra at*;generalize ax a.gone=ga at*;generalize b.boxes.map af=rb at*;generalize ax b.gone=gb at*;by_cases c1:a.eD=b.eD
 ·by_cases c2:a.time=b.time
  ·simp only[c1,c2] at h1;simp (maxSteps:=9^9) [a8,gk.m,gk.b,aa,h1,c1,c2]
  ·simp (maxSteps:=9^9) [a8,gk.m,gk.b,aa,c1,c2]
 ·simp (maxSteps:=9^9) [a8,gk.m,gk.b,aa,c1]
end Mx
namespace Mx
open Go
def Rd{α:Type}(l:List UInt8)(f:iX→α×iX)(t:List UInt8)(x:α):Prop:=
 ∀p q,l=p++(t++q)→f ((p.length:Int),false)=(x,((p.length+t.length:Nat):Int),false)
theorem EY{m:Nat}(h:¬m>127):iK m=[UInt8.ofNat m]:=by simp[iK,re h]
theorem DI{m:Nat}(h:m>127):iK m=UInt8.ofNat (m%128+128)::iK (m/128):=by simp[iK,rX h]
theorem yC(n:Nat)(hn:n≤1000000000)(p q:List UInt8):∀(d k m acc:Nat) (pre:List UInt8),0<d→m<128^d→pre.length=k→acc+m*pw k=n→iK n=pre++iK m→
  mM (p++(iK n++q)) p.length d k acc=some (n,p.length+(iK n).length,true)
 |0,k,m,acc,pre,h0,_,_,_,_=>by omega
 |d+1,k,m,acc,pre,_,hm,hp,ha,ht=>by
  by_cases c:m>127
  ·have hv:=DI c;have hl:p.length+k<(p++(iK n++q)).length:=by rw[ht,hv];simp;omega
   have hb:(p++(iK n++q))[p.length+k]=UInt8.ofNat (m%128+128):=by
    have e:p++(iK n++q)=(p++pre)++(UInt8.ofNat (m%128+128)::(iK (m/128)++q)):=by rw[ht,hv];simp
    have:=Di (p++pre) (UInt8.ofNat (m%128+128)) (iK (m/128)++q) (p.length+k) (by simp[hp]);rw[←e,bW hl] at this;exact Option.some.inj this
   have hn8:(UInt8.ofNat (m%128+128)).toNat=m%128+128:=by rw[UInt8.toNat_ofNat'];omega
   rw[mM,dif_pos hl,hb,hn8,if_neg (by omega)];have hd:0<d:=by
    rcases Nat.eq_zero_or_pos d with z|z
    ·subst z;simp at hm;omega
    ·exact z
   have e1:(m%128+128)%128=m%128:=by omega
   rw[e1];refine yC n hn p q d (k+1) (m/128) _ (pre++[UInt8.ofNat (m%128+128)]) hd ?_ (by simp[hp]) ?_ (by rw[ht,hv];simp)
   ·rw[Nat.div_lt_iff_lt_mul (by omega),←Nat.pow_succ];exact hm
   ·have e2:m/128*(pw k*128)=m/128*128*pw k:=by rw[Nat.mul_comm (pw k) 128,←Nat.mul_assoc]
    rw[zt,e2,Nat.add_assoc,←Nat.add_mul];have e3:m%128+m/128*128=m:=by omega
    rw[e3];exact ha
  ·have hv:=EY c;have hl:p.length+k<(p++(iK n++q)).length:=by rw[ht,hv];simp;omega
   have hb:(p++(iK n++q))[p.length+k]=UInt8.ofNat m:=by
    have e:p++(iK n++q)=(p++pre)++(UInt8.ofNat m::q):=by rw[ht,hv];simp
    have:=Di (p++pre) (UInt8.ofNat m) q (p.length+k) (by simp[hp]);rw[←e,bW hl] at this;exact Option.some.inj this
   have hn8:(UInt8.ofNat m).toNat=m:=by rw[UInt8.toNat_ofNat'];omega
   have hlen:(iK n).length=k+1:=by rw[ht,hv];simp[hp]
   rw[mM,dif_pos hl,hb,hn8,if_pos (by omega)];have e1:acc+m%128*pw k=n:=by rw[Nat.mod_eq_of_lt (by omega)];exact ha
   have e2:((p++(iK n++q)).drop p.length).take (k+1)=iK n:=by
    rw[List.drop_left,←hlen,List.take_left]
   rw[e1,e2,if_pos ⟨hn,rfl⟩,hlen];rfl
theorem tw{n:Nat}(hn:n≤1000000000)(p q:List UInt8):fS (p++(iK n++q)) p.length=(n,p.length+(iK n).length,true):=by
 unfold fS;rw[if_pos ⟨by omega,by simp;omega⟩];have:=yC n hn p q 5 0 n 0 [] (by omega) (Nat.lt_of_le_of_lt hn (by decide)) rfl (by simp[pw]) (by simp);simp only[eS,this,jl]
theorem BW{l:List UInt8}{n:Int}(h:isVar n):Rd l (cvar l) (dE n) n:=by
 intro p q e;have h1:=h.1;have h2:=h.2;have:=tw (n:=n.toNat) (by omega) p q;unfold cvar dE;subst e;simp only[dE] at this ⊢;simp only[this,ay,Bool.true_eq_false,or_self,if_false];rw[show ((n.toNat:Nat):Int)=n by omega]
theorem Fy{l:List UInt8}{s:List UInt8}(h:s.length≤20000):Rd l (g_ l) (kR s) s:=by
 intro p q e;have hv:=tw (n:=s.length) (by omega) p (s++q);have e2:l=p++(iK s.length++(s++q)):=by rw[e,kR];simp
 have hr:gT l p.length=(s,p.length+(kR s).length,true):=by
  unfold gT;rw[e2,hv];have h1:s.length+(p.length+(iK s.length).length)≤(p++(iK s.length++(s++q))).length:=by simp;omega
  rw[if_pos ⟨rfl,h,h1⟩];have h2:(p++(iK s.length++(s++q))).drop (p.length+(iK s.length).length)=s++q:=by
   rw[←ct,List.drop_left' (by simp)]
  simp only[h2,List.take_left,kR,aC,aU,and_true,true_and];omega
 unfold g_;simp only[hr,ay,Bool.true_eq_false,or_self,if_false]
end Mx
namespace Mx
open Go
variable {M:Nat→Option Body}
theorem x7(s:aW):(iL s).1.length≤20004:=by
 unfold iL;split
 ·unfold oh;split
  ·simp
  ·simp[four];omega
 ·simp
end Mx
namespace Mx
open Go
attribute [-simp] cy step nG mq pI pZ jk
variable {M:Nat→Option Body}
def zx:List (List UInt8):=[[105,110,98,111,120],[119,111,114,107],[111,108,100]]
def zw:List (List UInt8):=[[110,101,119],[105,110,98,111,120],[111,116,104,101,114]]
theorem B2{s:List UInt8}(h:s∈zx):s.length≤20004:=by
 have:∀t∈zx,t.length≤5:=by decide
 have:=this s h;omega
theorem B1{s:List UInt8}(h:s∈zw):s.length≤20004:=by
 have:∀t∈zw,t.length≤5:=by decide
 have:=this s h;omega
def Gn:List T:=[I 0,I 0,I 0,I 0,S []]
def z6(e:List (Nat×V))(eo:List (Nat×Ob))(R:List (List T))(s:aW)(g b m:Int)(ic:Nat)(q:Int)(n:Nat):St:={t:=([(0,.c (.ptr 0 0 0 0)),(2,.c (I g)),(4,.c (.ptr 4 2000000 0 0)),(6,.c (.ptr 6 2000016 0 0)),(7,.c (I b)),(8,.c (I m))]:List (Nat×V))++e,o:=([dv R ic q,(4,⟨2000000,4,true,true,[ai s]⟩),(6,⟨2000016,5,true,true,[Gn]⟩)]:List (Nat×Ob))++eo,n:=n}
def z7(R:List (List T))(c:kP)(ic:Nat)(q:Int)(n:Nat):St:={t:=[(6,.c (.ptr 6 2000016 0 0))],o:=[dv R ic q,(6,⟨2000016,5,true,true,[dw c]⟩)],n:=n}
theorem wZ(kt:ch.k M)(kn:gn.k M)(kb:aG.k M)(kx:eU.k M)(kp:dG.k M)(ku:bc.k M){R:List (List T)}(hR:Bytes R)
  (s:aW) (hw:1≤s.eD∧s.eD≤2) (g b m:Int) (i:Nat) (q:Int) (hi:i≤R.length) (n:Nat) (e:List (Nat×V)) (eo:List (Nat×Ob)):
  ∃(c:kP) (i':Nat) (q':Int) (n':Nat),c.text.length≤20004∧i'≤R.length∧cy (run M) 0 bX.tl (z6 e eo R s g b m i q n)=some (.ret,z7 R c i' q' n'):=by
 obtain⟨k,i1,q1,hk,hi1,h1⟩:=aG.al kb hR i q hi 12 (by omega) (by omega);simp only[aM] at h1;by_cases c1:b=0∨k=0
 ·obtain⟨x,i2,q2,hx,hi2,h2⟩:=dG.al kp hR i1 q1 hi1 zx (by decide) (by decide);suffices hh:∃n',cy (run M) 0 bX.tl (z6 e eo R s g b m i q n)=some (.ret,z7 R ⟨1,g,0,0,x⟩ i2 q2 n') by
   obtain⟨n',hh⟩:=hh;exact⟨_,_,_,n',B2 hx,hi2,hh⟩
  simp only[dv,zx,bB,bJ] at h1 h2;simp only[z6,z7,Gn,dv,dw,ai,boxes,ints];by_cases c2:b=0
  ·simp (maxSteps:=9^9) [bX.tl,ab,setAt,h1,h2,c2]
  ·have c3:k=0:=c1.resolve_left c2;subst c3;have e0:((0:Nat):Int)=0:=rfl;simp only[e0] at h1;simp (maxSteps:=9^9) [bX.tl,ab,setAt,h1,h2,c2]
 have c2:¬b=0:=fun e=>c1 (.inl e)
 have c3:¬k=0:=fun e=>c1 (.inr e)
 have c3':¬(k:Int)=0:=by omega
 by_cases d1:k<5∨m=0
 ·obtain⟨f,i2,q2,hf,hi2,h2⟩:=aG.al kb hR i1 q1 hi1 8 (by omega) (by omega);obtain⟨x,i3,q3,hx,hi3,h3⟩:=eU.al kx hR i2 q2 hi2;suffices hh:∃n',cy (run M) 0 bX.tl (z6 e eo R s g b m i q n)=some (.ret,z7 R ⟨4,b,g,f,x⟩ i3 q3 n') by
   obtain⟨n',hh⟩:=hh;exact⟨_,_,_,n',by simp only;omega,hi3,hh⟩
  simp only[dv,aM] at h1 h2 h3;simp only[z6,z7,Gn,dv,dw,ai,boxes,ints];by_cases d2:k<5
  ·have d2':(k:Int)<5:=by omega
   simp (maxSteps:=9^9) [bX.tl,setAt,h1,h2,h3,c2,c3,d2']
  ·have d2':¬(k:Int)<5:=by omega
   have d3:m=0:=d1.resolve_left d2;simp (maxSteps:=9^9) [bX.tl,setAt,h1,h2,h3,c2,c3,d2',d3]
 have d2:¬k<5:=fun e=>d1 (.inl e)
 have d2':¬(k:Int)<5:=by omega
 have d3:¬m=0:=fun e=>d1 (.inr e)
 by_cases e1:k<8
 ·have e1':(k:Int)<8:=by omega
  obtain⟨f,i2,q2,hf,hi2,h2⟩:=aG.al kb hR i1 q1 hi1 8 (by omega) (by omega);suffices hh:∃n',cy (run M) 0 bX.tl (z6 e eo R s g b m i q n)=some (.ret,z7 R ⟨5,b,m,f,[]⟩ i2 q2 n') by
   obtain⟨n',hh⟩:=hh;exact⟨_,_,_,n',by simp,hi2,hh⟩
  simp only[dv,aM] at h1 h2;simp only[z6,z7,Gn,dv,dw,ai,boxes,ints];simp (maxSteps:=9^9) [bX.tl,setAt,h1,h2,c2,c3,d2',d3,e1']
 have e1':¬(k:Int)<8:=by omega
 by_cases e2:k=8
 ·subst e2;suffices hh:∃n',cy (run M) 0 bX.tl (z6 e eo R s g b m i q n)=some (.ret,z7 R ⟨6,b,m,0,[]⟩ i1 q1 n') by
   obtain⟨n',hh⟩:=hh;exact⟨_,_,_,n',by simp,hi1,hh⟩
  simp only[dv,aM] at h1;simp only[z6,z7,Gn,dv,dw,ai,boxes,ints];simp (maxSteps:=9^9) [bX.tl,setAt,h1,c2,d3]
 have e2':¬(k:Int)=8:=by omega
 by_cases e3:k=9
 ·subst e3;obtain⟨x,i2,q2,hx,hi2,h2⟩:=dG.al kp hR i1 q1 hi1 zw (by decide) (by decide);suffices hh:∃n',cy (run M) 0 bX.tl (z6 e eo R s g b m i q n)=some (.ret,z7 R ⟨2,b,0,0,x⟩ i2 q2 n') by
   obtain⟨n',hh⟩:=hh;exact⟨_,_,_,n',B1 hx,hi2,hh⟩
  simp only[dv,zw,bB,bJ,aM] at h1 h2;simp only[z6,z7,Gn,dv,dw,ai,boxes,ints];simp (maxSteps:=9^9) [bX.tl,ab,setAt,h1,h2,c2,d3]
 have e3':¬(k:Int)=9:=by omega
 by_cases e4:k=10
 ·subst e4;suffices hh:∃n',cy (run M) 0 bX.tl (z6 e eo R s g b m i q n)=some (.ret,z7 R ⟨3,b,0,0,[]⟩ i1 q1 n') by
   obtain⟨n',hh⟩:=hh;exact⟨_,_,_,n',by simp,hi1,hh⟩
  simp only[dv,aM] at h1;simp only[z6,z7,Gn,dv,dw,ai,boxes,ints];simp (maxSteps:=9^9) [bX.tl,setAt,h1,c2,d3]
 have e4':¬(k:Int)=10:=by omega
 have hw3:IntKind.i64.wrap (3-s.eD)=3-s.eD:=wrap_i64 (by omega) (by omega);have h2:=gn.al kn (3-s.eD);obtain⟨t,w,i2,q2,ht,hw2,hi2,h3⟩:=bc.al ku hR i1 q1 hi1 true 0 ⟨3-s.eD,0,[],[]⟩ (yo (by omega) (by omega) true) 5 700 (by omega) (by omega);have hww:=hw2 rfl (by omega);subst hww;have h4:=ch.al kt t (nR ht.ok).kU;have l1:=x7 t;suffices hh:∃n',cy (run M) 0 bX.tl (z6 e eo R s g b m i q n)=some (.ret,z7 R ⟨7,0,0,0,(iL t).1⟩ i2 q2 n') by
  obtain⟨n',hh⟩:=hh;exact⟨_,_,_,n',l1,hi2,hh⟩
 generalize iL t=tt at*;obtain⟨tt,ok⟩:=tt;simp only[dv,aM] at h1 h3;simp only[ai,si,boxes,ints,bJ,mU] at h3 h4;simp only[z6,z7,Gn,dv,dw,ai,boxes,ints];generalize t.boxes.map af=tb at*;generalize ax t.gone=tg at*;simp (maxSteps:=9^9) [bX.tl,setAt,h1,h2,h3,h4,hw3,c2,c3,d2',d3,e1',e2',e3',e4']
theorem bX.al(h:bX.k M){R:List (List T)}(hR:Bytes R)(i:Nat)(q:Int)(hi:i≤R.length)(s:aW)(hs:n6 s)(hw:1≤s.eD∧s.eD≤2)(g:Int):
  ∃(c:kP) (i':Nat) (q':Int),c.text.length≤20004∧i'≤R.length∧run M 519 [.c (.ptr 0 0 0 0),.a (ai s),.c (I g)] [dv R i q]=some (.a (dw c),[dv R i' q']):=by
 obtain⟨h0,kt,kn,kb,kx,kp,ku⟩:=h;have er:(s.boxes.map af).length=s.boxes.length:=by simp
 by_cases c1:0<s.boxes.length;rotate_left
 ·obtain⟨c,i1,q1,n1,hc,hi1,h1⟩:=wZ kt kn kb kx kp ku hR s hw g 0 0 i q hi 2000128 [(16,.c (.bool false))] [];refine⟨c,i1,q1,hc,hi1,ao (b:=bX.m) h0 ⟨0, ?_⟩⟩;simp only[z6,z7,Gn,dv,dw,ai,boxes,ints,List.cons_append,List.nil_append] at h1 ⊢;generalize s.boxes.map af=rb at*;generalize ax s.gone=rs at*;simp (maxSteps:=9^9) [a8,bX.m,bX.b,ab,h1,er,c1]
 obtain⟨y,i1,q1,hy,hi1,h1⟩:=aG.al kb hR i q hi s.boxes.length c1 (by have:=hs.b;omega);have hB:=hs.box _ (ar hy);have a1:∀hh,(s.boxes.map af)[y]'hh=af s.boxes[y]:=by intro hh;simp
 have em:(s.boxes[y].ae.map ah).length=s.boxes[y].ae.length:=by simp
 by_cases c2:0<s.boxes[y].ae.length;rotate_left
 ·obtain⟨c,i2,q2,n2,hc,hi2,h2⟩:=wZ kt kn kb kx kp ku hR s hw g s.boxes[y].gid 0 i1 q1 hi1 2000416 [(9,.c (.ptr 9 2000272 0 0)),(31,.c (.bool false))] [(9,⟨2000272,7,true,true,[af s.boxes[y]]⟩)];refine⟨c,i2,q2,hc,hi2,ao (b:=bX.m) h0 ⟨0, ?_⟩⟩;simp only[z6,z7,Gn,dv,dw,ai,af,boxes,ae,ints,List.cons_append,List.nil_append] at h1 h2 a1 ⊢;generalize s.boxes.map af=rb at*;generalize ax s.gone=rs at*;generalize s.boxes[y].ae.map ah=rm at*;generalize ax s.boxes[y].gone=rg at*;simp (maxSteps:=9^9) [a8,bX.m,bX.b,ab,setAt,h1,h2,er,em,hy,a1,c1,c2]
 obtain⟨z,i2,q2,hz,hi2,h2⟩:=aG.al kb hR i1 q1 hi1 s.boxes[y].ae.length c2 (by have:=hB.m;omega);have a2:∀hh:z<(s.boxes[y].ae.map ah).length,(s.boxes[y].ae.map ah)[z]'hh=ah s.boxes[y].ae[z]:=by intro hh;simp
 obtain⟨c,i3,q3,n3,hc,hi3,h3⟩:=wZ kt kn kb kx kp ku hR s hw g s.boxes[y].gid s.boxes[y].ae[z].gid i2 q2 hi2 2000592 [] [];refine⟨c,i3,q3,hc,hi3,ao (b:=bX.m) h0 ⟨0, ?_⟩⟩;simp only[z6,z7,Gn,dv,dw,ai,af,ah,boxes,ae,ints,List.cons_append,List.nil_append] at h1 h2 h3 a1 a2 ⊢;generalize s.boxes.map af=rb at*;generalize ax s.gone=rs at*;generalize s.boxes[y].ae.map ah=rm at*;generalize ax s.boxes[y].gone=rg at*;simp (maxSteps:=9^9) [a8,bX.m,bX.b,ab,setAt,h1,h2,h3,er,em,hy,hz,a1,a2,c1,c2]
theorem LF(a b c:Int){z:Nat}(hz:z<3):∃v:Int,([[I a],[I b],[I c]]:List (List T))[z]? =some [I v]∧∀hh:z<([[I a],[I b],[I c]]:List (List T)).length,([[I a],[I b],[I c]]:List (List T))[z]'hh=[I v]:=by
 rcases (by omega:z=0∨z=1∨z=2) with rfl|rfl|rfl
 ·exact⟨a,rfl,fun _=>rfl⟩
 ·exact⟨b,rfl,fun _=>rfl⟩
 ·exact⟨c,rfl,fun _=>rfl⟩
theorem dj.al(h:dj.k M){R:List (List T)}(hR:Bytes R)(i:Nat)(q:Int)(hi:i≤R.length)(s:aW)(hs:n6 s)(hw:1≤s.eD∧s.eD≤2):
  ∃(c:kP) (i':Nat) (q':Int),c.text.length≤20004∧i'≤R.length∧run M 520 [.c (.ptr 0 0 0 0),.a (ai s)] [dv R i q]=some (.a (dw c),[dv R i' q']):=by
 obtain⟨h0,kb,kl,kc⟩:=h;obtain⟨k,i1,q1,hk,hi1,h1⟩:=aG.al kb hR i q hi 12 (by omega) (by omega);obtain⟨x,i2,q2,hx,hi2,h2⟩:=aG.al kb hR i1 q1 hi1 60 (by omega) (by omega);obtain⟨c,i3,q3,hc,hi3,h3⟩:=bX.al kc hR i2 q2 hi2 s hs hw 900;simp only[aM] at h1 h2;simp only[dv,ai,boxes,ints,dw] at h1 h2 h3 ⊢;obtain⟨z3,hz3,ez3⟩:=kG x 3 (by omega);simp only[aM] at ez3;obtain⟨v,hv,hv2⟩:=LF 0 5 10000 hz3;by_cases c0:k=0
 ·have d0:(k:Int)=0:=by omega
  refine⟨{c with kind:=(x:Int).tmod 9},i3,q3,hc,hi3,ao (b:=dj.m) h0 ⟨0, ?_⟩⟩
  generalize s.boxes.map af=rb at*;generalize ax s.gone=rs at*;simp (maxSteps:=9^9) [a8,dj.m,dj.b,ab,setAt,h1,h2,h3,c0]
 have d0:¬(k:Int)=0:=by omega
 by_cases c1:k=1
 ·have d1:(k:Int)=1:=by omega
  refine⟨{c with box:=v},i3,q3,hc,hi3,ao (b:=dj.m) h0 ⟨0, ?_⟩⟩
  generalize s.boxes.map af=rb at*;generalize ax s.gone=rs at*;simp (maxSteps:=9^9) [a8,dj.m,dj.b,ab,setAt,h1,h2,h3,c1,ez3,hz3,hv2]
 have d1:¬(k:Int)=1:=by omega
 by_cases c2:k=2
 ·have d2:(k:Int)=2:=by omega
  refine⟨{c with gid:=v},i3,q3,hc,hi3,ao (b:=dj.m) h0 ⟨0, ?_⟩⟩
  generalize s.boxes.map af=rb at*;generalize ax s.gone=rs at*;simp (maxSteps:=9^9) [a8,dj.m,dj.b,ab,setAt,h1,h2,h3,c2,ez3,hz3,hv2]
 have d2:¬(k:Int)=2:=by omega
 by_cases c3:k=3
 ·have d3:(k:Int)=3:=by omega
  obtain⟨z,hz,ez⟩:=kG x 10 (by omega);simp only[aM] at ez;have ew:IntKind.i64.wrap ((z:Int)-1)=(z:Int)-1:=wrap_i64 (by omega) (by omega);refine⟨{c with flags:=(z:Int)-1},i3,q3,hc,hi3,ao (b:=dj.m) h0 ⟨0, ?_⟩⟩
  generalize s.boxes.map af=rb at*;generalize ax s.gone=rs at*;simp (maxSteps:=9^9) [a8,dj.m,dj.b,ab,setAt,h1,h2,h3,c3,ez,ew]
 have d3:¬(k:Int)=3:=by omega
 by_cases c4:k=4
 ·have d4:(k:Int)=4:=by omega
  obtain⟨l,hl,h4⟩:=dH.al kl 61 (by omega);simp only[aM] at h4;have key:∀t:List UInt8,t.length≤20004→([[S []],[S [65]],[S l]]:List (List T))[z3]? =some [S t]→(∀hh:z3<([[S []],[S [65]],[S l]]:List (List T)).length,([[S []],[S [65]],[S l]]:List (List T))[z3]'hh=[S t])→
    ∃(c:kP) (i':Nat) (q':Int),c.text.length≤20004∧i'≤R.length∧run M 520 [.c (.ptr 0 0 0 0),.a [I s.eD,I s.time,.sl false 7 (s.boxes.map af),.sl false 1 (ax s.gone)]] [(0,⟨0,3,true,true,[[.sl false 1 R,I i,I q]]⟩)]=some (.a [I c.kind,I c.box,I c.gid,I c.flags,S c.text],[(0,⟨0,3,true,true,[[.sl false 1 R,I i',I q']]⟩)]):=by
   intro t ht g1 g2;refine⟨{c with text:=t},i3,q3,ht,hi3,ao (b:=dj.m) h0 ⟨0, ?_⟩⟩
   generalize s.boxes.map af=rb at*;generalize ax s.gone=rs at*;simp (maxSteps:=9^9) [a8,dj.m,dj.b,ab,setAt,h1,h2,h3,h4,c4,ez3,hz3,g2]
  rcases (by omega:z3=0∨z3=1∨z3=2) with rfl|rfl|rfl
  ·exact key [] (by simp) rfl fun _=>rfl
  ·exact key [65] (by simp) rfl fun _=>rfl
  ·exact key l (by omega) rfl fun _=>rfl
 have d4:¬(k:Int)=4:=by omega
 refine⟨c,i3,q3,hc,hi3,ao (b:=dj.m) h0 ⟨0, ?_⟩⟩;generalize s.boxes.map af=rb at*;generalize ax s.gone=rs at*;simp (maxSteps:=9^9) [a8,dj.m,dj.b,ab,setAt,h1,h2,h3,c0,d1,d2,d3,d4]
theorem Ab{s:aW}(h:n6 s)(w:Int):n6 {s with eD:=w}:=⟨⟨⟨h.t.kU.b,h.t.kU.g,h.t.kU.i,h.t.kU.s⟩,h.t.time⟩,h.b,h.g,h.box⟩
theorem fF.al(h:fF.k M){R:List (List T)}(hR:Bytes R):
  ∃(s:aW) (c:kP),n6 s∧c.text.length≤20004∧run M 517 [.c (.sl false 1 R)] []=some (.lL [.a (ai s),.a (dw c)],[]):=by
 obtain⟨h0,k1,ka,ky⟩:=h;obtain⟨q0,h1⟩:=fM.al k1 hR;obtain⟨s,i1,q1,hs,hi1,h2⟩:=cC.al ka hR 0 q0 (Nat.zero_le _);have e0:((0:Nat):Int)=0:=rfl;by_cases w:s.eD=1∨s.eD=2
 ·obtain⟨c,i2,q2,hc,hi2,h3⟩:=dj.al ky hR i1 q1 hi1 s hs (by omega);refine⟨s,c,hs,hc,ao (b:=fF.m) h0 ⟨0, ?_⟩⟩;simp only[dv,e0,ai,aS,dw,boxes,ints] at h1 h2 h3 ⊢;generalize s.boxes.map af=rb at*;generalize ax s.gone=rs at*;by_cases w1:s.eD=1
  ·simp only[w1] at h2 h3 ⊢;simp (maxSteps:=9^9) [a8,fF.m,fF.b,ab,setAt,h1,h2,h3]
  ·have w2:s.eD=2:=w.resolve_left w1;simp only[w2] at h2 h3 ⊢;simp (maxSteps:=9^9) [a8,fF.m,fF.b,ab,setAt,h1,h2,h3]
 ·have w1:¬s.eD=1:=fun e=>w (.inl e)
  have w2:¬s.eD=2:=fun e=>w (.inr e)
  obtain⟨c,i2,q2,hc,hi2,h3⟩:=dj.al ky hR i1 q1 hi1 {s with eD:=1} (Ab hs 1) (by simp);refine⟨{s with eD:=1},c,Ab hs 1,hc,ao (b:=fF.m) h0 ⟨0, ?_⟩⟩
  simp only[dv,e0,ai,aS,dw,boxes,ints] at h1 h2 h3 ⊢;generalize s.boxes.map af=rb at*;generalize ax s.gone=rs at*;simp (maxSteps:=9^9) [a8,fF.m,fF.b,ab,setAt,h1,h2,h3,w1,w2]
theorem gC.al(h:gC.k M){R:List (List T)}(hR:Bytes R):
  ∃(s:aW) (c:kP),n6 s∧c.text.length≤20004∧run M 509 [.c (.sl false 1 R)] []=some (.lL [.a (ai s),.a (dw c)],[]):=by
 obtain⟨h0,k1⟩:=h;obtain⟨s,c,hs,hc,h1⟩:=fF.al k1 hR;refine⟨s,c,hs,hc,ao (b:=gC.m) h0 ⟨0, ?_⟩⟩;simp only[ai,dw,boxes,ints] at h1 ⊢;generalize s.boxes.map af=rb at*;generalize ax s.gone=rs at*;simp (maxSteps:=9^9) [a8,gC.m,gC.b,ab,setAt,h1]
end Mx
namespace Mx
open Go
theorem rQ{c:kP}(h:jX c=true):c.text.length≤7004:=by
 simp only[jX,ak] at h;have ht:=h.2;unfold sS at ht;split at ht
 ·have:=(mi ht).2;omega
 ·split at ht
  ·have:=of_decide_eq_true ht;omega
  ·split at ht
   ·exact qX ht
   ·have:=of_decide_eq_true ht;rw[this];simp
theorem x_{c:kP}(h:jX c=true):iB (p_ c)=(c,true):=by
 obtain⟨v1,v2,v3,v4,v5⟩:=pB h;have hx:=rQ h;have hk:((mA c.kind).toNat:Int)=c.kind:=by
  unfold mA;rw[UInt8.toNat_ofNat'];omega
 obtain⟨l,hl⟩:∃l,l=p_ c:=⟨_,rfl⟩
 have e1:=BW (l:=l) v1 [mA c.kind] (dE c.gid++(dE c.flags++(iK c.text.length++c.text))) (by rw[hl];rfl);have e2:=BW (l:=l) v2 (mA c.kind::dE c.box) (dE c.flags++(iK c.text.length++c.text)) (by rw[hl];simp[p_]);have e3:=BW (l:=l) v3 (mA c.kind::(dE c.box++dE c.gid)) (iK c.text.length++c.text) (by rw[hl];simp[p_]);have e4:=Fy (l:=l) (s:=c.text) (by omega) (mA c.kind::(dE c.box++(dE c.gid++dE c.flags))) [] (by rw[hl];simp[p_,kR]);simp only[bT,eJ,aC,Nat.zero_add] at e1 e2 e3 e4;have hlen:l.length=1+(dE c.box).length+(dE c.gid).length+(dE c.flags).length+(kR c.text).length:=by
  rw[hl];simp only[p_,kR,bT,aC];omega
 generalize (dE c.box).length=a1 at*;generalize (dE c.gid).length=a2 at*;generalize (dE c.flags).length=a3 at*;rw[show a1+1=1+a1 by omega] at e2;rw[show a1+a2+1=1+a1+a2 by omega] at e3;rw[show a1+(a2+a3)+1=1+a1+a2+a3 by omega] at e4;have e0:((1:Nat):Int)=1:=rfl;rw[e0] at e1;have hc:pn l c.kind=(c,((l.length:Nat):Int),false):=by
  simp only[pn,e1,e2,e3,e4,hlen]
 have hl2:l=mA c.kind::(dE c.box++(dE c.gid++(dE c.flags++(iK c.text.length++c.text)))):=hl;rw[←hl,hl2];unfold iB;simp only;rw[←hl2,hk,hc];simp[h]
theorem vD{c:kP}(h:jX c=true):jK c=(p_ c,true):=by unfold jK;rw[if_pos h]
theorem t_(c:kP):(jK c).2=jX c:=by unfold jK;cases jX c<;>rfl
theorem ua(c:kP):(jK c).1.length≤8000:=by
 unfold jK;split
 ·rename_i h;obtain⟨v1,v2,v3,v4,v5⟩:=pB h;have:=rQ h;have:=da v1;have:=da v2;have:=da v3;have:=kL (n:=c.text.length) (by omega);simp only[p_,bT,aC];omega
 ·simp
theorem A4(l:List UInt8)(k:Int):nv l (1,false) (pn l k).2 (dE (pn l k).1.box++(dE (pn l k).1.gid++(dE (pn l k).1.flags++kR (pn l k).1.text))):=
 (jG l _).trans ((jG l _).trans ((jG l _).trans (qI l _)))
theorem wL{l:List UInt8}(h:(iB l).2=true):jK (iB l).1=(l,true):=by
 cases l with
 |nil=>simp[iB] at h
 |cons k r=>
  unfold iB at h ⊢;simp only at h ⊢;split at h;rotate_left
  ·cases h
  rename_i c;rw[if_pos c];obtain⟨c1,c2,c3⟩:=c;have hs:=A4 (k::r) k.toNat;have hkind:(pn (k::r) k.toNat).1.kind=(k.toNat:Int):=rfl;simp only;rw[vD c3];generalize pn (k::r) k.toNat=q at*;obtain⟨q,e,b⟩:=q;simp only at c1 c2 c3 hs hkind ⊢;subst c1 c2;obtain⟨_,_,hh⟩:=hs rfl;have hr:r=dE q.box++(dE q.gid++(dE q.flags++kR q.text)):=by
   rcases hh with⟨e1,e2⟩|⟨_,_,e3⟩
   ·rw[e1];have:(r.length:Int)+1=1:=by simpa using e2
    exact List.length_eq_zero_iff.1 (by omega)
   ·simp only[eS,List.take_length] at e3;have e4:(1:Int).toNat=1:=rfl;rw[e4] at e3;simpa using e3
  have hb:mA q.kind=k:=by
   rw[hkind];unfold mA;have:=k.toNat_lt;rw[show ((k.toNat:Int)%256).toNat=k.toNat by omega];exact UInt8.ofNat_toNat
  have:p_ q=k::r:=by
   rw[hr];unfold p_;rw[hb];rfl
  rw[this]
end Mx
namespace Mx
open Go
attribute [-simp] cy step nG mq pI pZ jk
variable {M:Nat→Option Body}
theorem jr{s:aW}(h:iI s):mo s:=⟨h.b,h.g,fun b hb=>⟨(h.i b hb).m,(h.i b hb).g,(h.i b hb).f⟩⟩
theorem ok_eq{s:aW}(h:bu s=true):mo s:=jr (nR h).kU
theorem B7{s:aW}(h:n6 s)(g:Int)(nm:List UInt8):mo (lN s g nm).1:=by
 unfold lN;split
 ·split
  ·rename_i c;exact ok_eq c
  ·exact jr h.t.kU
 ·exact jr h.t.kU
theorem sX{s:aW}(h:n6 s)(i:Nat)(b:bz):mo (stamped s i b).1:=by
 unfold stamped;split
 ·rename_i c;exact ok_eq c
 ·exact jr h.t.kU
theorem at_eq{s:aW}(h:n6 s)(g:Int){f:Nat→bz→aW×Bool}(hf:∀i (hi:i<s.boxes.length),mo (f i s.boxes[i]).1):mo (at_ s g f).1:=by
 cases c:me s.boxes g with
 |none=>rw[lQ c];exact jr h.t.kU
 |some i=>
  obtain⟨hi,_⟩:=iO c;rw[lP c hi];exact hf i hi
theorem zp{s:aW}(h:n6 s)(g:Int)(nm:List UInt8):mo (jV s g nm).1:=by
 unfold jV;split
 ·exact at_eq h g fun i hi=>sX h i _
 ·exact jr h.t.kU
theorem BZ{s:aW}(h:n6 s)(g m f:Int)(x:List UInt8):mo (lM s g m f x).1:=by
 unfold lM;split
 ·refine at_eq h g fun i hi=> ?_
  split
  ·exact sX h i _
  ·exact jr h.t.kU
 ·exact jr h.t.kU
theorem AF{s:aW}(h:n6 s)(g m f:Int):mo (kM s g m f).1:=by
 unfold kM;split
 ·refine at_eq h g fun i hi=> ?_
  split
  ·exact sX h i _
  ·exact jr h.t.kU
 ·exact jr h.t.kU
theorem A2{s:aW}(h:n6 s)(g m:Int):mo (kN s g m).1:=by
 cases c:bu s with
 |true=>exact ok_eq (rL c g m)
 |false=>unfold kN;rw[c];exact jr h.t.kU
theorem Ck{s:aW}(h:n6 s)(g:Int):mo (lO s g).1:=by
 unfold lO;split
 ·rename_i c;refine at_eq h g fun i hi=>⟨?_, ?_,fun b hb=> ?_⟩
  ·have:=h.t.kU.b;simp only[aC,jn,List.length_drop];omega
  ·have:=xi s.gone g;simp only;omega
  ·have hm:b∈s.boxes:=by
    rcases List.mem_append.1 hb with q|q
    ·exact List.mem_of_mem_take q
    ·exact List.mem_of_mem_drop q
   exact(jr h.t.kU).box b hm
 ·exact jr h.t.kU
theorem zk(s:aW):vV s s=true:=by simp[vV,alike]
theorem sD(h:gk.k M){s:aW}(hs:mo s):run M 421 [.a (ai s),.a (ai s)] []=some (.c (.bool true),[]):=by
 have:=gk.al h s s hs
 rwa [zk] at this
theorem cI.al(h:cI.k M){R:List (List T)}(hR:Bytes R):
  ∃u:List UInt8,u.length≤20004∧run M 510 [.c (.sl false 1 R)] []=some (.c (S u),[]):=by
 obtain⟨h0,kt,k1,kb,ksp,kp⟩:=h;obtain⟨q0,h1⟩:=fM.al k1 hR;obtain⟨x,i1,q1,hx,hi1,h2⟩:=aG.al kb hR 0 q0 (Nat.zero_le _) 4 (by omega) (by omega);obtain⟨s,c,hs,hc,h3⟩:=fF.al kp hR;have h4:=gL.al kt c (by omega);have l1:=ua c;generalize jK c=t at*;obtain⟨t,o⟩:=t;simp only at h4 l1;have e0:((0:Nat):Int)=0:=rfl;simp only[e0,aM,dv] at h1 h2;simp only[ai,dw,boxes,ints] at h3 h4;generalize s.boxes.map af=ra at*;generalize ax s.gone=ga at*;by_cases c0:x=0
 ·subst c0;simp only[e0] at h2;obtain⟨v,i3,q3,hv,hi3,h6⟩:=cg.al ksp hR i1 q1 hi1 t (by omega);refine⟨v,by omega,ao (b:=cI.m) h0 ⟨0, ?_⟩⟩;simp only[dv] at h6;simp (maxSteps:=9^9) [a8,cI.m,cI.b,ab,setAt,h1,h2,h3,h4,h6]
 have d0:¬(x:Int)=0:=by omega
 by_cases c1:x=1
 ·subst c1;have e1:((1:Nat):Int)=1:=rfl;simp only[e1] at h2;refine⟨t++[120],by simp;omega,ao (b:=cI.m) h0 ⟨0, ?_⟩⟩;simp (maxSteps:=9^9) (disch:=(first|omega|(simp;done)|(simp;omega))) [a8,cI.m,cI.b,ab,setAt,fT,h1,h2,h3,h4]
 ·have d1:¬(x:Int)=1:=by omega
  refine⟨t,by omega,ao (b:=cI.m) h0 ⟨0, ?_⟩⟩;simp (maxSteps:=9^9) [a8,cI.m,cI.b,ab,setAt,h1,h2,h3,h4,c0,d1]
def Idle(s:aW)(x:aW×Bool):Prop:=x.2=false→x.1=s
theorem mn(s:aW):Idle s (s,false):=fun _=>rfl
theorem rE(s t:aW):Idle s (t,true):=fun h=>by cases h
theorem qD(s:aW)(i:Nat)(b:bz):Idle s (stamped s i b):=by
 unfold stamped;split
 ·exact rE _ _
 ·exact mn _
theorem tN{s:aW}{g:Int}{f:Nat→bz→aW×Bool}(h:∀i b,Idle s (f i b)):Idle s (at_ s g f):=by
 unfold at_;split
 ·exact mn _
 ·split
  ·exact mn _
  ·exact h _ _
theorem Ef(s:aW)(c:kP):Idle s (lG s c):=by
 unfold lG;split;·exact mn _
 split
 ·unfold lN;split
  ·split
   ·exact rE _ _
   ·exact mn _
  ·exact mn _
 split
 ·unfold jV;split
  ·exact tN fun i b=>qD _ _ _
  ·exact mn _
 split
 ·unfold lO;split
  ·exact tN fun i b=>rE _ _
  ·exact mn _
 split
 ·unfold lM;split
  ·refine tN fun i b=> ?_
   split
   ·exact qD _ _ _
   ·exact mn _
  ·exact mn _
 split
 ·unfold kM;split
  ·refine tN fun i b=> ?_
   split
   ·exact qD _ _ _
   ·exact mn _
  ·exact mn _
 split
 ·unfold kN;split
  ·refine tN fun i b=> ?_
   split
   ·exact rE _ _
   ·exact mn _
  ·exact mn _
 unfold w8;split
 ·exact mn _
 ·exact rE _ _
theorem Cn{s:aW}{c:kP}(h:(lG s c).2=true):jX c=true:=by
 cases ck:jX c with
 |true=>rfl
 |false=>unfold lG at h;rw[if_pos ck] at h;cases h
theorem IM{s:aW}(h:n6 s)(c:kP):mo (lG s c).1:=by
 unfold lG;split;·exact jr h.t.kU
 split;·exact B7 h ..
 split;·exact zp h ..
 split;·exact Ck h ..
 split;·exact BZ h ..
 split;·exact AF h ..
 split;·exact A2 h ..
 unfold w8;split
 ·exact jr h.t.kU
 ·rename_i q;have:lx s (gK c.text).1=true:=by
   cases z:lx s (gK c.text).1 with
   |true=>rfl
   |false=>exact(q (.inr z)).elim
  unfold lx at this;simp only[ak] at this;exact ok_eq this.2
set_option maxRecDepth 100000 in
theorem c_.al(h:c_.k M)(R:List (List T))(hl:R.length≤9223372036854775807)(hr:∀(i:Nat) (r:List T),R[i]? =some r→∃n:Int,r=[.int .u8 n]):
  run M 502 [.c (.sl false 1 R)] []=some (.c (.bool true),[]):=by
 obtain⟨h0,kbig,ksco,kico,ksrc,kirc,kict,ksa,ksd,kid,kd1,kd2⟩:=h;have hbig:=lD.al kbig R hl;refine ao (b:=c_.m) h0 ⟨0, ?_⟩;by_cases cb:1048576<R.length
 ·rw[decide_eq_true cb] at hbig;simp (maxSteps:=9^9) [a8,c_.m,c_.b,hbig]
 rw[decide_eq_false cb] at hbig;have hR:Bytes R:=⟨by omega,hr⟩;obtain⟨s,c,hs,hc,h1⟩:=gC.al kd1 hR;have h2:=cX.al kid s hs.t c (by omega);have h3:=cW.al ksd s hs.t c (by omega);have h4:=gw.al kict c (by omega);have l1:=ua c;have h5:=eR.al kirc (jK c).1 (by omega);obtain⟨u,hu,h6⟩:=cI.al kd2 hR;have h7:=eR.al kirc u (by omega);have h8:=fh.al ksrc u (by omega);have h10:=aX.al ksco c (by omega);have h11:=aP.al kico c (by omega);have h12:=sD ksa (IM hs c);have h13:=sD ksa (jr hs.t.kU);have a1:=t_ c;have a2:jX c=true→iB (jK c).1=(c,true):=fun e=>by rw[vD e];exact x_ e
 have a3:(iB u).2=true→jK (iB u).1=(u,true):=wL;have a4:=Ef s c;have a5:(lG s c).2=true→jX c=true:=Cn;have hy:(iB u).1.text.length≤1048576:=by
  cases z:(iB u).2 with
  |true=>
   have:=a3 z;have hk:=t_ (iB u).1;rw[this] at hk;have:=rQ hk.symm;omega
  |false=>
   have:(iB u).1=qY:=by
    unfold iB at z ⊢;split
    ·rfl
    ·split
     ·rename_i q;simp only at z;rw[if_pos q] at z;cases z
     ·rfl
   rw[this];simp[qY]
 have h9:=gw.al kict (iB u).1 hy;unfold Idle at a4;generalize lG s c=d at*;generalize iB (jK c).1=x1 at*;generalize jK (iB u).1=t2 at*;generalize iB u=x2 at*;generalize jK c=t1 at*;obtain⟨d,ok⟩:=d;obtain⟨x1,b1⟩:=x1;obtain⟨t2,o2⟩:=t2;obtain⟨x2,b2⟩:=x2;obtain⟨t1,o1⟩:=t1;simp only at h2 h3 h4 h5 h7 h8 h9 h12 a1 a2 a3 a4 a5 l1;subst a1;clear hs hy;cases ok with
 |true=>
  have ck:=a5 rfl;obtain⟨rfl,rfl⟩:x1=c∧b1=true:=by simpa using a2 ck
  rw[ck] at h4 h10 h11;clear a2 a4 a5;cases b2 with
  |true=>
   obtain⟨rfl,rfl⟩:t2=u∧o2=true:=by simpa using a3 rfl
   clear a3;simp only[ai,boxes,ints,dw] at h1 h2 h3 h4 h5 h7 h8 h9 h10 h11 h12 h13
   try generalize s.boxes.map af=r1 at*
   try generalize ax s.gone=p1 at*
   try generalize d.boxes.map af=r2 at*
   try generalize ax d.gone=p2 at*
   simp (maxSteps:=9^9) [a8,c_.m,c_.b,ab,setAt,hbig,h1,h2,h3,h4,h5,h6,h7,h8,h9,h10,h11,h12]
  |false=>
   clear a3;simp only[ai,boxes,ints,dw] at h1 h2 h3 h4 h5 h7 h8 h9 h10 h11 h12 h13
   try generalize s.boxes.map af=r1 at*
   try generalize ax s.gone=p1 at*
   try generalize d.boxes.map af=r2 at*
   try generalize ax d.gone=p2 at*
   simp (maxSteps:=9^9) [a8,c_.m,c_.b,ab,setAt,hbig,h1,h2,h3,h4,h5,h6,h7,h8,h9,h10,h11,h12]
 |false=>
  have e:=a4 rfl;subst e;clear a4 a5;cases ck:jX c with
  |true=>
   obtain⟨rfl,rfl⟩:x1=c∧b1=true:=by simpa using a2 ck
   rw[ck] at h4 h10 h11;clear a2;cases b2 with
   |true=>
    obtain⟨rfl,rfl⟩:t2=u∧o2=true:=by simpa using a3 rfl
    clear a3;simp only[ai,boxes,ints,dw] at h1 h2 h3 h4 h5 h7 h8 h9 h10 h11 h12 h13
    try generalize s.boxes.map af=r1 at*
    try generalize ax s.gone=p1 at*
    try generalize d.boxes.map af=r2 at*
    try generalize ax d.gone=p2 at*
    simp (maxSteps:=9^9) [a8,c_.m,c_.b,ab,setAt,hbig,h1,h2,h3,h4,h5,h6,h7,h8,h9,h10,h11,h12]
   |false=>
    clear a3;simp only[ai,boxes,ints,dw] at h1 h2 h3 h4 h5 h7 h8 h9 h10 h11 h12 h13
    try generalize s.boxes.map af=r1 at*
    try generalize ax s.gone=p1 at*
    try generalize d.boxes.map af=r2 at*
    try generalize ax d.gone=p2 at*
    simp (maxSteps:=9^9) [a8,c_.m,c_.b,ab,setAt,hbig,h1,h2,h3,h4,h5,h6,h7,h8,h9,h10,h11,h12]
  |false=>
   rw[ck] at h4 h10 h11;clear a2;cases b2 with
   |true=>
    obtain⟨rfl,rfl⟩:t2=u∧o2=true:=by simpa using a3 rfl
    clear a3;simp only[ai,boxes,ints,dw] at h1 h2 h3 h4 h5 h7 h8 h9 h10 h11 h12 h13
    try generalize s.boxes.map af=r1 at*
    try generalize ax s.gone=p1 at*
    try generalize d.boxes.map af=r2 at*
    try generalize ax d.gone=p2 at*
    simp (maxSteps:=9^9) [a8,c_.m,c_.b,ab,setAt,hbig,h1,h2,h3,h4,h5,h6,h7,h8,h9,h10,h11,h12]
   |false=>
    clear a3;simp only[ai,boxes,ints,dw] at h1 h2 h3 h4 h5 h7 h8 h9 h10 h11 h12 h13
    try generalize s.boxes.map af=r1 at*
    try generalize ax s.gone=p1 at*
    try generalize d.boxes.map af=r2 at*
    try generalize ax d.gone=p2 at*
    simp (maxSteps:=9^9) [a8,c_.m,c_.b,ab,setAt,hbig,h1,h2,h3,h4,h5,h6,h7,h8,h9,h10,h11,h12]
theorem c_.row(h:c_.k M){as:List V}(ha:y_ [.cell (.sl [.int .u8])] as):run M 502 as []=some (.c (.bool true),[]):=by
 cases ha with|cons h0 ha=>
 cases ha;cases h0 with|cell h0=>
 cases h0 with|sl _ rows hl h1 h2=>
 refine c_.al h rows (Nat.le_trans hl (by decide)) fun i r hr=> ?_
 have hlen:=h1 i r hr
 match r,hlen with
 |[a],_=>
  obtain⟨n,rfl⟩:=Iz (h2 i 0 [a] (.int .u8) a hr rfl rfl);exact⟨n,rfl⟩
end Mx
