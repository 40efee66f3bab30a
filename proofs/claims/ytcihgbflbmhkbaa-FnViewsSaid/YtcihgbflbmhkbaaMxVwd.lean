/-
  What more of the functions compute, each by a small evaluation; no condition beyond what each says.
-/
import Derived.Lib.Split
import Derived.Test.YtcihgbflbmhkbaaMxVwc
set_option maxHeartbeats 16000000
set_option linter.unusedSimpArgs false
set_option linter.unusedVariables false
namespace Mx
open Go
variable {M:Nat→Option Body}
structure A5 where
 s:aP
 g:Int
 N:List T
 u3:Nat
 u6:Nat
 u8:Nat
 u9:Nat
 w2:Nat
 w3:Nat
def wi(c:A5)(v n:Nat):List T:=[I c.s.eP,I c.s.time,.row 30 v 0 n,.row 12903 c.w3 0 c.s.gone.length]
def Bi(c:A5)(i:Nat)(out:List cX)(y:Nat×Nat):St:={t:=[(1,.c (I c.g)),(3,.c (.ptr 3 c.u3 0 0)),(6,.c (.ptr 6 c.u6 0 0)),(8,.c (.ptr 8 c.u8 0 0)),(9,.c (.ptr 9 c.u9 0 0)),(10,.c (I i))],o:=[(3,⟨c.u3,4,true,true,[ao c.s]⟩),(6,⟨c.u6,4,true,true,[pG]⟩),(8,⟨c.u8,4,true,true,[wi c y.1 out.length]⟩),(9,⟨c.u9,7,true,true,[c.N]⟩),(30,⟨y.1,7,true,false,out.map ah⟩),(12902,⟨c.w2,7,true,false,c.s.boxes.map ah⟩),(12903,⟨c.w3,1,true,false,au c.s.gone⟩)],n:=y.2}
def Cf(c:A5)(out:List cX)(y:Nat×Nat):St:={t:=[(1,.c (I c.g)),(3,.c (.ptr 3 c.u3 0 0)),(6,.c (.ptr 6 c.u6 0 0)),(8,.c (.ptr 8 c.u8 0 0)),(9,.c (.ptr 9 c.u9 0 0)),(10,.c (I c.s.boxes.length)),(41,.c (.bool false))],o:=[(3,⟨c.u3,4,true,true,[ao c.s]⟩),(6,⟨c.u6,4,true,true,[pG]⟩),(8,⟨c.u8,4,true,true,[wi c y.1 out.length]⟩),(9,⟨c.u9,7,true,true,[c.N]⟩),(30,⟨y.1,7,true,false,out.map ah⟩),(12902,⟨c.w2,7,true,false,c.s.boxes.map ah⟩),(12903,⟨c.w3,1,true,false,au c.s.gone⟩)],n:=y.2}
def Bh(c:A5)(i:Nat)(out:List cX)(y:Nat×Nat):St:={t:=[(1,.c (I c.g)),(3,.c (.ptr 3 c.u3 0 0)),(6,.c (.ptr 6 c.u6 0 0)),(8,.c (.ptr 8 c.u8 0 0)),(11,.c (I i))],o:=[(3,⟨c.u3,4,true,true,[ao c.s]⟩),(6,⟨c.u6,4,true,true,[pG]⟩),(8,⟨c.u8,4,true,true,[wi c y.1 out.length]⟩),(30,⟨y.1,7,true,false,out.map ah⟩),(12902,⟨c.w2,7,true,false,c.s.boxes.map ah⟩),(12903,⟨c.w3,1,true,false,au c.s.gone⟩)],n:=y.2}
def Ce(c:A5)(out:List cX)(y:Nat×Nat):St:={t:=[(1,.c (I c.g)),(3,.c (.ptr 3 c.u3 0 0)),(6,.c (.ptr 6 c.u6 0 0)),(8,.c (.ptr 8 c.u8 0 0)),(11,.c (I c.s.boxes.length)),(73,.c (.bool false))],o:=[(3,⟨c.u3,4,true,true,[ao c.s]⟩),(6,⟨c.u6,4,true,true,[pG]⟩),(8,⟨c.u8,4,true,true,[wi c y.1 out.length]⟩),(30,⟨y.1,7,true,false,out.map ah⟩),(12902,⟨c.w2,7,true,false,c.s.boxes.map ah⟩),(12903,⟨c.w3,1,true,false,au c.s.gone⟩)],n:=y.2}
theorem j6(p:cX→Bool):∀(l s:List cX),l.foldl (fun s a=>if p a=true then s++[a] else s) s=s++l.filter p
 |[],s=>by simp
 |a::l,s=>by
  rw[dW,j6 p l,jA];by_cases h:p a=true<;>simp[h]
theorem ze(kc:bD.k M)(k:Nat)(c:A5)(hs:gh c.s)(hk:c.s.boxes.length<k)(y:Nat×Nat):
  ∃z,dP (b9 (run M) k ba.l0) k (Bi c 0 [] y)=some (.exit 0,Cf c (c.s.boxes.filter fun b=>decide (b.gid<c.g)) z):=by
 have hbl:=hs.b;have er:(c.s.boxes.map ah).length=c.s.boxes.length:=by simp
 obtain⟨g,hr⟩:=lf (f:=b9 (run M) k ba.l0) c.s.boxes (fun s b=>if decide (b.gid<c.g)=true then s++[b] else s) (fun i s=>s.length≤i) (Bi c) 0 (Cf c)
  (fun i h s hs=>by split<;>(try simp)<;>omega)
  (fun i hi s y hi2=>by
   obtain⟨v,n⟩:=y;have hB:=hs.i _ (ax hi);have h1:=bD.aE kc c.s.boxes[i] hB;have e5:=dS (i:=i) (by omega);have e6:s.length+1≤4294967296:=by omega
   have e9:(s.map ah).length=s.length:=by simp
   have a1:∀hh,(c.s.boxes.map ah)[i]'hh=ah c.s.boxes[i]:=by intro hh;simp
   simp only[bP];by_cases q:c.s.boxes[i].gid<c.g
   ·simp only[q,decide_true,if_true,Bi,wi,dG,aL,bI,aN,d_];simp only[ao,ah,dR,boxes,af,ints] at a1 h1 ⊢;generalize c.s.boxes.map ah=rb at*;generalize au c.s.gone=rs at*;generalize s.map ah=ro at*;generalize c.s.boxes[i].af.map aD=r1 at*;generalize au c.s.boxes[i].gone=r2 at*;simp (maxSteps:=9^9) [ba.l0,ab,setAt,hi,q,h1,e5,e6,e9,er,a1,aa]
   ·simp only[q,decide_false,az,if_false,Bi,wi];simp only[ao,ah,dR,boxes,af,ints] at a1 h1 ⊢;generalize c.s.boxes.map ah=rb at*;generalize au c.s.gone=rs at*;generalize s.map ah=ro at*;generalize c.s.boxes[i].af.map aD=r1 at*;generalize au c.s.boxes[i].gone=r2 at*;simp (maxSteps:=9^9) [ba.l0,ab,hi,q,e5,er,a1])
  (fun s y hs=>by
   obtain⟨v,n⟩:=y;simp only[bP,Bi,Cf,wi,ao,boxes,ints];generalize c.s.boxes.map ah=rb at*;generalize au c.s.gone=rs at*;generalize s.map ah=ro at*;simp (maxSteps:=9^9) [ba.l0,ab,er]) [] (by simp)
 rw[j6,eu] at hr;exact⟨_,gE (hr y) (by omega)⟩
theorem zd(kc:bD.k M)(k:Nat)(c:A5)(hs:gh c.s)(hk:c.s.boxes.length<k)(o0:List cX)(ho:o0.length≤2097152)(y:Nat×Nat):
  ∃z,dP (b9 (run M) k ba.l1) k (Bh c 0 o0 y)=some (.exit 2,Ce c (o0++c.s.boxes.filter fun b=>decide (c.g<b.gid)) z):=by
 have hbl:=hs.b;have er:(c.s.boxes.map ah).length=c.s.boxes.length:=by simp
 obtain⟨g,hr⟩:=lf (f:=b9 (run M) k ba.l1) c.s.boxes (fun s b=>if decide (c.g<b.gid)=true then s++[b] else s) (fun i s=>s.length≤2097152+i) (Bh c) 2 (Ce c)
  (fun i h s hs=>by split<;>(try simp)<;>omega)
  (fun i hi s y hi2=>by
   obtain⟨v,n⟩:=y;have hB:=hs.i _ (ax hi);have h1:=bD.aE kc c.s.boxes[i] hB;have e5:=dS (i:=i) (by omega);have e6:s.length+1≤4294967296:=by omega
   have e9:(s.map ah).length=s.length:=by simp
   have a1:∀hh,(c.s.boxes.map ah)[i]'hh=ah c.s.boxes[i]:=by intro hh;simp
   simp only[bP];by_cases q:c.g<c.s.boxes[i].gid
   ·simp only[q,decide_true,if_true,Bh,wi,dG,aL,bI,aN,d_];simp only[ao,ah,dR,boxes,af,ints] at a1 h1 ⊢;generalize c.s.boxes.map ah=rb at*;generalize au c.s.gone=rs at*;generalize s.map ah=ro at*;generalize c.s.boxes[i].af.map aD=r1 at*;generalize au c.s.boxes[i].gone=r2 at*;simp (maxSteps:=9^9) [ba.l1,ab,setAt,hi,q,h1,e5,e6,e9,er,a1,aa]
   ·simp only[q,decide_false,az,if_false,Bh,wi];simp only[ao,ah,dR,boxes,af,ints] at a1 h1 ⊢;generalize c.s.boxes.map ah=rb at*;generalize au c.s.gone=rs at*;generalize s.map ah=ro at*;generalize c.s.boxes[i].af.map aD=r1 at*;generalize au c.s.boxes[i].gone=r2 at*;simp (maxSteps:=9^9) [ba.l1,ab,hi,q,e5,er,a1])
  (fun s y hs=>by
   obtain⟨v,n⟩:=y;simp only[bP,Bh,Ce,wi,ao,boxes,ints];generalize c.s.boxes.map ah=rb at*;generalize au c.s.gone=rs at*;generalize s.map ah=ro at*;simp (maxSteps:=9^9) [ba.l1,ab,er]) o0 (by omega)
 rw[j6] at hr;exact⟨_,gE (hr y) (by omega)⟩
def gR(s:aP)(g:Int)(nm:List UInt8):cX:=⟨g,nm,s.time+1,s.eP,1,[],[]⟩
def eQ(s:aP)(g:Int)(nm:List UInt8):aP:={s with boxes:=(s.boxes.filter fun b=>decide (b.gid<g))++[gR s g nm]++s.boxes.filter fun b=>decide (g<b.gid),time:=s.time+1}
def jV(s:aP)(g:Int)(nm:List UInt8):aP×Bool:=if aW s=true∧pV s g=false∧(named s.boxes nm).isSome=false then(if aW (eQ s g nm)=true then(eQ s g nm,true) else(s,false)) else(s,false)
theorem vd{s:aP}(h:aW s=true)(g:Int)(nm:List UInt8)(hn:nm.length≤1048576):gh (eQ s g nm):=by
 have G:=fk h;have hl:=G.boxes.len;have f1:=ea (fun b:cX=>decide (b.gid<g)) s.boxes;have f2:=ea (fun b:cX=>decide (g<b.gid)) s.boxes;have hin:∀x∈(eQ s g nm).boxes,x∈s.boxes∨x=gR s g nm:=fun x hx=>by
  simp only[eQ,eY,fB,eA] at hx;rcases hx with (q|q)|q
  ·exact .inl q.1
  ·exact .inr q
  ·exact .inl q.1
 have hlen:(eQ s g nm).boxes.length≤11:=by simp only[eQ,aN,d_];omega
 have key:∀l:List cX,(∀x∈l,x.af.length≤10)→(l.flatMap aI).length≤10*l.length:=by
  intro l
  induction l with
  |nil=>intro _;simp
  |cons x l ih=>
   intro h;have h1:=ih fun y hy=>h y (df _ hy)
   have h2:=h x (dB ..);simp only[ct,aN,aI,fC,ae] at h1 ⊢;omega
 refine⟨by omega,by have:=G.gone;simp only[eQ];omega,fun x hx=> ?_, ?_⟩
 ·rcases hin x hx with q|q
  ·exact(G.boxes.mn x q).wk
  ·rw[q];exact⟨by simp[gR],by simp[gR],hn,by simp[gR]⟩
 ·have:=key (eQ s g nm).boxes fun x hx=>by
   rcases hin x hx with q|q
   ·exact(G.boxes.mn x q).len
   ·rw[q];simp[gR]
  omega
theorem ba.aE(h:ba.k M)(s:aP)(hs:kT s)(g:Int)(nm:List UInt8)(hn:nm.length≤1048576):
  run M 278 [.a (ao s),.c (I g),.c (S nm)] []=some (.hC [.a (bm (jV s g nm).1),.c (.bool (jV s g nm).2)],[]):=by
 obtain⟨h0,ko,kc6,kc,kn,kk,kst⟩:=h;have ht:=hs.time;have hbl:=hs.mi.b;have h2:=aC.aE ko s hs.mi;have h3:=bg.aE kn s nm hs.mi.b;have h7:=cw.aE kk s g hs.mi;have h4:=bz.aE kc s hs.mi;have h5:=ca.aE kst s hs.time;have er:(s.boxes.map ah).length=s.boxes.length:=by simp
 have eg:=bK s.gone;have e5:IntKind.i64.wrap (s.time+1)=s.time+1:=wrap_i64 (by omega) (by omega);have c0:=hQ (named s.boxes nm);refine aq (b:=ba.m) h0 ⟨s.boxes.length+1, ?_⟩;unfold jV;cases c1:aW s with
 |false=>
  rw[c1] at h2;simp only[az,false_and,if_false];simp only[ao,bm,boxes,ints] at*;generalize s.boxes.map ah=rb at*;generalize au s.gone=rs at*;simp (maxSteps:=9^9) [bB,ba.m,ba.b,ab,setAt,h2,h4,er,eg,aa]
 |true=>
  rw[c1] at h2;cases c2:pV s g with
  |true=>
   rw[c2] at h7;simp only[Bool.true_eq_false,false_and,and_false,if_false];simp only[ao,bm,boxes,ints] at*;generalize s.boxes.map ah=rb at*;generalize au s.gone=rs at*;simp (maxSteps:=9^9) [bB,ba.m,ba.b,ab,setAt,h2,h4,h7,er,eg,aa]
  |false=>
   rw[c2] at h7;cases c3:(named s.boxes nm).isSome with
   |true=>
    rw[c3] at c0;simp only[decide_eq_true_eq] at c0;simp only[Bool.true_eq_false,and_false,if_false];generalize di (named s.boxes nm)=z at*;simp only[ao,bm,boxes,ints] at*;generalize s.boxes.map ah=rb at*;generalize au s.gone=rs at*;simp (maxSteps:=9^9) [bB,ba.m,ba.b,ab,setAt,c0,h2,h3,h4,h7,er,eg,aa]
   |false=>
    rw[c3] at c0;simp only[decide_eq_false_iff_not] at c0;rw[if_pos ⟨rfl,rfl,rfl⟩];have h6:=aC.aE ko _ (vd c1 g nm hn);obtain⟨⟨v1,n1⟩,r1⟩:=ze kc6 (s.boxes.length+1) ⟨s,g,[I g,S nm,I (s.time+1),I s.eP,I 1,.bp 4,.bp 1],2000000,2000016,2000304,2000464,2000290,2000291⟩ hs.mi (by simp only;omega) (2000336,2000512);have f1:=ea (fun b:cX=>decide (b.gid<g)) s.boxes;have f2:=ea (fun b:cX=>decide (g<b.gid)) s.boxes;obtain⟨⟨v2,n2⟩,r2⟩:=zd kc6 (s.boxes.length+1) ⟨s,g,[],2000000,2000016,2000304,0,2000290,2000291⟩ hs.mi (by simp only;omega) ((s.boxes.filter fun b=>decide (b.gid<g))++[gR s g nm]) (by simp;omega) (n1+64,n1+128);have ez:((0:Nat):Int)=0:=rfl;have el1:((s.boxes.filter fun b=>decide (b.gid<g)).map ah).length=(s.boxes.filter fun b=>decide (b.gid<g)).length:=by simp
    have em:(((s.boxes.filter fun b=>decide (b.gid<g))++[gR s g nm]).map ah)=(s.boxes.filter fun b=>decide (b.gid<g)).map ah++[[I g,S nm,I (s.time+1),I s.eP,I 1,.sl false 4 [],.sl false 1 []]]:=by simp[gR,ah,au]
    have eml:((s.boxes.filter fun b=>decide (b.gid<g))++[gR s g nm]).length=(s.boxes.filter fun b=>decide (b.gid<g)).length+1:=by simp
    have e6:(s.boxes.filter fun b=>decide (b.gid<g)).length+1≤4294967296:=by omega
    have emt:(eQ s g nm).boxes=(s.boxes.filter fun b=>decide (b.gid<g))++[gR s g nm]++s.boxes.filter fun b=>decide (g<b.gid):=rfl
    have el2:((eQ s g nm).boxes.map ah).length=(eQ s g nm).boxes.length:=by simp
    have ew:(eQ s g nm).eP=s.eP:=rfl;have et:(eQ s g nm).time=s.time+1:=rfl;have egn:(eQ s g nm).gone=s.gone:=rfl;simp only[Bi,Cf,wi,ez,bI,ai] at r1;simp only[Bh,Ce,wi,ez,←emt,em,eml] at r2;clear emt em eml;generalize di (named s.boxes nm)=z at*;generalize (s.boxes.filter fun b=>decide (b.gid<g)).map ah=rf at*;generalize (s.boxes.filter fun b=>decide (b.gid<g)).length=nf at*;cases c:aW (eQ s g nm) with
    |true=>
     rw[c] at h6;rw[if_pos rfl];simp only[ao,bm,boxes,ints,ew,et,egn] at h2 h3 h4 h5 h6 h7 r1 r2 ⊢;clear c;generalize (eQ s g nm).boxes.map ah=rm at*;generalize (eQ s g nm).boxes.length=nm2 at*;generalize s.boxes.map ah=rb at*;generalize au s.gone=rs at*;simp (maxSteps:=9^9) [bB,ba.m,ba.b,ab,setAt,c0,h2,h3,h4,h5,h6,h7,r1,r2,e5,e6,el1,el2,er,eg,aa]
    |false=>
     rw[c] at h6;rw[if_neg (by decide)];simp only[ao,bm,boxes,ints,ew,et,egn] at h2 h3 h4 h5 h6 h7 r1 r2 ⊢;clear c;generalize (eQ s g nm).boxes.map ah=rm at*;generalize (eQ s g nm).boxes.length=nm2 at*;generalize s.boxes.map ah=rb at*;generalize au s.gone=rs at*;simp (maxSteps:=9^9) [bB,ba.m,ba.b,ab,setAt,c0,h2,h3,h4,h5,h6,h7,r1,r2,e5,e6,el1,el2,er,eg,aa]
end Mx
namespace Mx
open Go
structure B5 (s:aP):Prop where
 eP:1≤s.eP∧s.eP≤2
 time:0≤s.time∧s.time≤100000
 len:s.boxes.length≤5
 gone:yu s.gone
 pY:∀g∈s.gone,1≤g∧g≤9999
 oK:s.gone.length≤20
 box:∀b∈s.boxes,Good b∧¬b.gid∈s.gone∧late b s.time=false
 Bp:s.boxes.Pairwise fun x y=>x.gid<y.gid
 names:s.boxes.Pairwise fun x y=>x.name≠y.name
 af:(s.boxes.flatMap aI).Nodup
theorem wW{l:List cX}(i:Nat)(hi:i<l.length):di (named l l[i].name)=(i:Int)↔∀j (hj:j<i),(l[j]'(by omega)).name≠l[i].name:=by
 unfold named;constructor
 ·intro h j hj e;cases q:l.findIdx? (fun b=>decide (b.name=l[i].name)) with
  |none=>rw[q] at h;simp[di] at h
  |some k=>
   rw[q] at h;simp only[di] at h;have hk:k=i:=by omega
   subst hk;have:=(List.findIdx?_eq_some_iff_getElem.1 q).2.2 j hj;simp[e] at this
 ·intro h;have:l.findIdx? (fun b=>decide (b.name=l[i].name))=some i:=List.findIdx?_eq_some_iff_getElem.2 ⟨hi,by simp,fun j hj=>by simpa using h j hj⟩;rw[this];rfl
theorem sc(seen l:List Int)(hs:seen.Nodup):pB seen l=false↔(seen++l).Nodup:=by
 have h0:pB seen l=false↔∀k (hk:k<l.length),¬l[k]∈seen++l.take k:=by
  unfold pB;rw[Option.isSome_eq_false_iff,da,en];constructor
  ·intro h k hk c;have:=h k hk;rw[mw hk] at this;simp only[decide_eq_false_iff_not] at this;exact this c
  ·intro h k hk;rw[mw hk];simpa using h k hk
 rw[h0];constructor
 ·intro h;have key:∀k,k≤l.length→(seen++l.take k).Nodup:=by
   intro k
   induction k with
   |zero=>intro _;simpa using hs
   |succ k ih=>
    intro hk;rw[mJ l k (by omega),←cY,List.nodup_append];refine⟨ih (by omega),by simp,fun a ha b hb e=> ?_⟩;simp only[eA] at hb;subst hb;subst e;exact h k (by omega) ha
  have:=key l.length (Nat.le_refl _)
  rwa [List.take_length] at this
 ·intro h k hk c;have e:l=l.take k++l[k]::l.drop (k+1):=by rw[←cB hk,dE]
  rw[e,←cY,List.nodup_append] at h;exact h.2.2 _ c _ (dB ..) rfl
theorem wJ(s:aP):(∀i (hi:i<s.boxes.length),pB (seenAt s i) (aI s.boxes[i])=false)↔(s.boxes.flatMap aI).Nodup:=by
 have ha:seenAt s s.boxes.length=s.boxes.flatMap aI:=by simp[seenAt]
 constructor
 ·intro h;have key:∀k,k≤s.boxes.length→(seenAt s k).Nodup:=by
   intro k
   induction k with
   |zero=>intro _;simp[seenAt]
   |succ k ih=>
    intro hk;rw[kG (by omega)];exact(sc _ _ (ih (by omega))).1 (h k (by omega))
  rw[←ha];exact key _ (Nat.le_refl _)
 ·intro h i hi;have hsub:(seenAt s (i+1)).Sublist (s.boxes.flatMap aI):=by
   have e:s.boxes.flatMap aI=seenAt s (i+1)++(s.boxes.drop (i+1)).flatMap aI:=by
    rw[seenAt,←List.flatMap_append,dE]
   rw[e];exact List.sublist_append_left ..
  have h1:=h.sublist hsub;rw[kG hi] at h1;exact(sc _ _ (List.nodup_append.1 h1).1).2 h1
theorem bW{s:aP}:aW s=true↔B5 s:=by
 have hsplit:(∀i (hi:i<s.boxes.length),mC s i=false)↔(∀i (hi:i<s.boxes.length),m9 s i=false)∧(∀i (hi:i<s.boxes.length),pB (seenAt s i) (aI s.boxes[i])=false):=by
  constructor
  ·intro h;exact⟨fun i hi=>by have:=h i hi;rw[jw hi,dM] at this;exact this.1,fun i hi=>by have:=h i hi;rw[jw hi,dM] at this;exact this.2⟩
  ·intro h i hi;rw[jw hi,dM];exact⟨h.1 i hi,h.2 i hi⟩
 have hbox:∀i (hi:i<s.boxes.length),m9 s i=false↔eO s.boxes[i]=true∧(0<i→(s.boxes[i-1]'(by omega)).gid<s.boxes[i].gid)∧(∀j (hj:j<i),(s.boxes[j]'(by omega)).name≠s.boxes[i].name)∧¬s.boxes[i].gid∈s.gone∧late s.boxes[i] s.time=false:=fun i hi=>by
  rw[lj hi,←wW i hi];simp only[dM,Bool.not_eq_eq_eq_not,Bool.not_false,Bool.and_eq_false_imp,decide_eq_true_eq,decide_eq_false_iff_not,Int.not_le];constructor
  ·rintro ⟨⟨⟨⟨h1,h2⟩,h3⟩,h4⟩,h5⟩;exact⟨h1,h2,h3,h4,h5⟩
  ·rintro ⟨h1,h2,h3,h4,h5⟩;exact⟨⟨⟨⟨h1,h2⟩,h3⟩,h4⟩,h5⟩
 have hq:aW s=true↔((((1≤s.eP∧s.eP≤2)∧0≤s.time∧s.time≤100000)∧s.boxes.length≤5)∧gq s.gone 20=true)∧∀i (hi:i<s.boxes.length),mC s i=false:=by
  simp only[aW,aj,decide_eq_true_eq,da,en,fV]
 rw[hq,hsplit,wJ];constructor
 ·rintro ⟨⟨⟨⟨h1,h2⟩,h3⟩,h4⟩,h5,h6⟩;obtain⟨g1,g2,g3⟩:=iN.1 h4;have hb:=fun i hi=>(hbox i hi).1 (h5 i hi)
  refine⟨h1,h2,h3,g1,g2,by omega,fun b hbm=> ?_, ?_, ?_,h6⟩
  ·obtain⟨i,hi,rfl⟩:=cr hbm;exact⟨ju.1 (hb i hi).1,(hb i hi).2.2.2.1,(hb i hi).2.2.2.2⟩
  ·have hA:yu (s.boxes.map (·.gid)):=oi fun j hj=>by
    simp only[fC] at hj;have:=(hb (j+1) hj).2.1 (by omega);simpa using this
   exact List.pairwise_map.1 hA
  ·exact List.pairwise_iff_getElem.2 fun i j hi hj hij=>(hb j hj).2.2.1 i hij
 ·intro h;refine⟨⟨⟨⟨h.eP,h.time⟩,h.len⟩,iN.2 ⟨h.gone,h.pY,by have:=h.oK;omega⟩⟩,fun i hi=>(hbox i hi).2 ⟨ju.2 (h.box _ (ax hi)).1,fun q=>List.pairwise_iff_getElem.1 h.Bp (i-1) i (by omega) hi (by omega),fun j hj=>List.pairwise_iff_getElem.1 h.names j i (by omega) hi hj,(h.box _ (ax hi)).2.1,(h.box _ (ax hi)).2.2⟩,h.af⟩
theorem xm{l l':List cX}(h:l.Sublist l'):(l.flatMap aI).Sublist (l'.flatMap aI):=by
 induction h with
 |slnil=>exact List.Sublist.refl _
 |cons a _ ih=>rw[ct];exact ih.trans (List.sublist_append_right _ _)
 |cons_cons a _ ih=>rw[ct,ct];exact List.Sublist.append (List.Sublist.refl _) ih
theorem jJ{s:aP}(h:aW s=true)(i:Nat)(b:cX):aW (stamped s i b).1=true:=by
 unfold stamped;split
 ·rename_i c;exact c
 ·exact h
theorem uz{s:aP}(h:aW s=true)(g:Int)(f:Nat→cX→aP×Bool)(hf:∀i (hi:i<s.boxes.length),aW (f i s.boxes[i]).1=true):aW (at_ s g f).1=true:=by
 cases c:gH s.boxes g with
 |none=>rw[g_ c];exact h
 |some i=>
  obtain⟨hi,_⟩:=eE c;rw[gZ c hi];exact hf i hi
theorem sW{s:aP}(h:aW s=true)(g m f:Int)(x:List UInt8):aW (jO s g m f x).1=true:=by
 unfold jO;split
 ·refine uz h _ _ fun i hi=> ?_
  split
  ·exact jJ h _ _
  ·exact h
 ·exact h
theorem rM{s:aP}(h:aW s=true)(g m f:Int):aW (iL s g m f).1=true:=by
 unfold iL;rw[if_pos h];refine uz h _ _ fun i hi=> ?_
 split
 ·exact jJ h _ _
 ·exact h
theorem qy{s:aP}(h:aW s=true)(g:Int)(nm:List UInt8):aW (gQ s g nm).1=true:=by
 unfold gQ;split
 ·exact uz h _ _ fun i hi=>jJ h _ _
 ·exact h
theorem oz{s:aP}(h:aW s=true)(g:Int)(nm:List UInt8):aW (jV s g nm).1=true:=by
 unfold jV;split
 ·split
  ·rename_i c;exact c
  ·exact h
 ·exact h
theorem oV{s:aP}(h:aW s=true){g:Int}(hg:1≤g∧g≤9999):aW (jZ s g).1=true:=by
 unfold jZ;split
 ·rename_i c;cases q:gH s.boxes g with
  |none=>rw[g_ q];exact h
  |some i=>
   obtain⟨hi,hbi⟩:=eE q;rw[gZ q hi];have G:=bW.1 h;have hs:=ga s.boxes i;have hgi:=(o5 hbi).2;refine bW.2 ⟨G.eP,G.time,Nat.le_trans hs.length_le G.len,r5 G.gone,fun x hx=> ?_,by have:=ug s.gone g;simp only;omega,fun b hb=> ?_,G.Bp.sublist hs,G.names.sublist hs,G.af.sublist (xm hs)⟩
   ·rcases jr.1 hx with e|e
    ·rw[e];exact hg
    ·exact G.pY x e
   ·obtain⟨b1,b2,b3⟩:=G.box b (hs.subset hb);refine⟨b1,fun e=> ?_,b3⟩;rcases jr.1 e with e|e
    ·rcases List.mem_append.1 hb with z|z
     ·obtain⟨j,hj,rfl⟩:=cr z;simp only[dJ] at hj;rw[List.getElem_take] at e;have:=List.pairwise_iff_getElem.1 G.Bp j i (by omega) hi (by omega);omega
     ·obtain⟨j,hj,rfl⟩:=cr z;rw[List.getElem_drop] at e;have:=List.pairwise_iff_getElem.1 G.Bp i (i+1+j) hi (by simp at hj;omega) (by omega);omega
    ·exact b2 e
 ·exact h
theorem pq{b:cX}(hb:Good b){m:Int}(ok:(fb b m).2=true):Good (fb b m).1∧(fb b m).1.gid=b.gid∧(fb b m).1.name=b.name∧(fb b m).1.time=b.time∧(fb b m).1.af.Sublist b.af:=by
 unfold fb at ok ⊢;cases q:dY b.af m with
 |none=>rw[q] at ok;cases ok
 |some k=>
  rw[q] at ok;simp only at ok ⊢;obtain⟨hlt,he,_⟩:=fM q;by_cases c:eO b=true∧b.gone.length<40
  ·rw[if_pos c];have:=vn hb hlt c.2;rw[he] at this;exact⟨this,rfl,rfl,rfl,ga b.af k⟩
  ·rw[if_neg c] at ok;cases ok
theorem nE{s:aP}(h:aW s=true)(g m:Int):aW (iP s g m).1=true:=by
 unfold iP;rw[if_pos h];refine uz h _ _ fun i hi=> ?_
 split
 ·rename_i c;have G:=bW.1 h;obtain⟨b1,b2,b3⟩:=G.box _ (ax hi);obtain⟨t1,t2,t3,t4,t5⟩:=pq b1 c;generalize (fb s.boxes[i] m).1=b' at*;have e1:(s.boxes.set i b').map (·.gid)=s.boxes.map (·.gid):=by
   rw[iU];apply List.ext_getElem<;>simp[List.getElem_set];intro j hj h2;subst h2;exact t2
  have e2:(s.boxes.set i b').map (·.name)=s.boxes.map (·.name):=by
   rw[iU];apply List.ext_getElem<;>simp[List.getElem_set];intro j hj h2;subst h2;exact t3
  refine bW.2 ⟨G.eP,G.time,by simpa using G.len,G.gone,G.pY,G.oK,fun b hb=> ?_, ?_, ?_, ?_⟩
  ·rcases List.mem_or_eq_of_mem_set hb with q|q
   ·exact G.box b q
   ·subst q;refine⟨t1,by rw[t2];exact b2, ?_⟩;unfold late at b3 ⊢;simp only[dM,List.any_eq_false] at b3 ⊢;rw[t4];exact⟨b3.1,fun x hx=>b3.2 x (t5.subset hx)⟩
  ·have:(s.boxes.map (·.gid)).Pairwise (fun a b:Int=>a<b):=List.pairwise_map.2 G.Bp;rw[←e1] at this;exact List.pairwise_map.1 this
  ·have:(s.boxes.map (·.name)).Pairwise (fun a b:List UInt8=>a≠b):=List.pairwise_map.2 G.names;rw[←e2] at this;exact List.pairwise_map.1 this
  ·have e:s.boxes.set i b'=s.boxes.take i++b'::s.boxes.drop (i+1):=List.set_eq_take_append_cons_drop.trans (by rw[if_pos hi]);have e':s.boxes=s.boxes.take i++s.boxes[i]::s.boxes.drop (i+1):=by rw[←cB hi,dE]
   have hm:=G.af;rw[e'] at hm;simp only;rw[e];refine hm.sublist ?_;simp only[List.flatMap_append,ct];exact List.Sublist.append (List.Sublist.refl _) (List.Sublist.append (t5.map _) (List.Sublist.refl _))
 ·exact h
def CU(b:cX)(g:Int):Prop:=b.gid=g∨g∈b.gone∨∃m∈b.af,m.gid=g
def Kn(s:aP)(g:Int):Prop:=(∃b∈s.boxes,CU b g)∨g∈s.gone
theorem me{l:List fi}{g:Int}:(dY l g).isSome=true↔∃m∈l,m.gid=g:=by
 cases q:dY l g with
 |none=>simpa using oA.1 q
 |some k=>obtain⟨h1,h2,_⟩:=fM q;simpa using⟨_,ax h1,h2⟩
def ox:List (List UInt8):=[[105,110,98,111,120],[119,111,114,107],[110,101,119],[111,116,104,101,114],[111,108,100]]
structure nJ (b:cX):Prop where
 name:b.name∈ox
 kn:∀g,CU b g→100≤g∧g≤999
structure Used (n:Nat) (s:aP):Prop where
 ok:aW s=true
 time:s.time≤n
 gone:s.gone.length≤n
 box:∀b∈s.boxes,nJ b
 kn:∀g∈s.gone,100≤g∧g≤999
theorem Used.all{n:Nat}{s:aP}(h:Used n s){g:Int}(k:Kn s g):100≤g∧g≤999:=by
 rcases k with⟨b,h1,h2⟩|k
 ·exact(h.box b h1).kn g h2
 ·exact h.kn g k
theorem Used.mono{n m:Nat}{s:aP}(h:Used n s)(hm:n≤m):Used m s:=⟨h.ok,by have:=h.time;omega,by have:=h.gone;omega,h.box,h.kn⟩
theorem rn{w:Int}(h1:1≤w)(h2:w≤2):Used 0 ⟨w,0,[],[]⟩:=
 ⟨bW.2 ⟨⟨h1,h2⟩,by simp,by simp,List.Pairwise.nil,by simp,by simp,by simp,List.Pairwise.nil,List.Pairwise.nil,List.nodup_nil⟩,by simp,by simp,by simp,by simp⟩
theorem jD{n:Nat}{s:aP}(h:Used n s)(i:Nat){b:cX}(hb:nJ b):Used (n+1) (stamped s i b).1:=by
 have hok:=jJ h.ok i b;unfold stamped at hok ⊢;split
 ·rename_i c;rw[if_pos c] at hok;refine⟨hok,by have:=h.time;simp only[dN];omega,by have:=h.gone;simp only[dN];omega,fun x hx=> ?_,h.kn⟩;rcases List.mem_or_eq_of_mem_set hx with q|q
  ·exact h.box x q
  ·rw[q];exact hb
 ·exact h.mono (by omega)
theorem qm{n:Nat}{s:aP}(h:Used n s)(g:Int)(f:Nat→cX→aP×Bool)(hf:∀i (hi:i<s.boxes.length),s.boxes[i].gid=g→Used (n+1) (f i s.boxes[i]).1):Used (n+1) (at_ s g f).1:=by
 cases c:gH s.boxes g with
 |none=>rw[g_ c];exact h.mono (by omega)
 |some i=>
  obtain⟨hi,hb⟩:=eE c;rw[gZ c hi];exact hf i hi (o5 hb).2
theorem uP{b:cX}(h:nJ b){m:Int}(hm:100≤m∧m≤999)(f:Int)(x:List UInt8)(t w:Int):nJ (fZ b m f x t w).1:=by
 unfold fZ;split
 ·refine⟨h.name,fun g k=> ?_⟩;rcases k with k|k|⟨y,hy,k⟩
  ·exact h.kn g (.inl k)
  ·exact h.kn g (.inr (.inl k))
  ·rcases List.mem_append.1 hy with q|q
   ·exact h.kn g (.inr (.inr ⟨y,q,k⟩))
   ·simp only[eA] at q;subst q;rw[←k];exact hm
 ·exact h
theorem sF{b:cX}(h:nJ b)(m n t w:Int):nJ (fg b m n t w).1:=by
 unfold fg;split
 ·exact h
 ·rename_i k hk;split
  ·exact h
  ·rename_i y hy;split
   ·refine⟨h.name,fun g k=> ?_⟩;rcases k with k|k|⟨z,hz,k⟩
    ·exact h.kn g (.inl k)
    ·exact h.kn g (.inr (.inl k))
    ·rcases List.mem_or_eq_of_mem_set hz with q|q
     ·exact h.kn g (.inr (.inr ⟨z,q,k⟩))
     ·subst q;exact h.kn g (.inr (.inr ⟨y,cT hy,k⟩))
   ·exact h
theorem sE{b:cX}(h:nJ b)(m:Int):nJ (fb b m).1:=by
 unfold fb;cases q:dY b.af m with
 |none=>exact h
 |some k=>
  obtain⟨h1,h2,_⟩:=fM q;simp only;split
  ·refine⟨h.name,fun g z=> ?_⟩;rcases z with z|z|⟨y,hy,z⟩
   ·exact h.kn g (.inl z)
   ·rcases jr.1 z with e|e
    ·exact h.kn g (.inr (.inr ⟨_,ax h1,by rw[e];exact h2⟩))
    ·exact h.kn g (.inr (.inl e))
   ·exact h.kn g (.inr (.inr ⟨y,(ga b.af k).subset hy,z⟩))
  ·exact h
theorem wv{n:Nat}{s:aP}(h:Used n s)(g:Int){m:Int}(hm:100≤m∧m≤999)(f:Int)(x:List UInt8):Used (n+1) (jO s g m f x).1:=by
 unfold jO;split
 ·refine qm h _ _ fun i hi _=> ?_
  split
  ·exact jD h _ (uP (h.box _ (ax hi)) hm _ _ _ _)
  ·exact h.mono (by omega)
 ·exact h.mono (by omega)
theorem uK{n:Nat}{s:aP}(h:Used n s)(g m f:Int):Used (n+1) (iL s g m f).1:=by
 unfold iL;rw[if_pos h.ok];refine qm h _ _ fun i hi _=> ?_
 split
 ·exact jD h _ (sF (h.box _ (ax hi)) _ _ _ _)
 ·exact h.mono (by omega)
theorem uN{n:Nat}{s:aP}(h:Used n s)(g m:Int):Used (n+1) (iP s g m).1:=by
 have hok:=nE h.ok g m;unfold iP at hok ⊢;rw[if_pos h.ok] at hok ⊢;cases c:gH s.boxes g with
 |none=>rw[g_ c];exact h.mono (by omega)
 |some i=>
  obtain⟨hi,hb⟩:=eE c;rw[gZ c hi] at hok ⊢;split
  ·rename_i z;rw[if_pos z] at hok;refine⟨hok,by have:=h.time;simp only;omega,by have:=h.gone;simp only;omega,fun x hx=> ?_,h.kn⟩;rcases List.mem_or_eq_of_mem_set hx with q|q
   ·exact h.box x q
   ·rw[q];exact sE (h.box _ (ax hi)) m
  ·exact h.mono (by omega)
theorem uJ{n:Nat}{s:aP}(h:Used n s)(g:Int){nm:List UInt8}(hn:nm∈ox):Used (n+1) (gQ s g nm).1:=by
 unfold gQ;split
 ·exact qm h _ _ fun i hi _=>jD h _ ⟨hn,fun g k=>(h.box _ (ax hi)).kn g k⟩
 ·exact h.mono (by omega)
theorem uL{n:Nat}{s:aP}(h:Used n s){g:Int}(hg:100≤g∧g≤999){nm:List UInt8}(hn:nm∈ox):Used (n+1) (jV s g nm).1:=by
 have hok:=oz h.ok g nm;unfold jV at hok ⊢;split
 ·rename_i c;rw[if_pos c] at hok;split
  ·rename_i z;rw[if_pos z] at hok;refine⟨hok,by have:=h.time;simp only[eQ];omega,by have:=h.gone;simp only[eQ];omega,fun x hx=> ?_,h.kn⟩;simp only[eQ,eY,fB,eA] at hx;rcases hx with (q|q)|q
   ·exact h.box x q.1
   ·rw[q];refine⟨hn,fun g k=> ?_⟩;rcases k with k|k|⟨m,hm,k⟩
    ·rw[←k];exact hg
    ·simp[gR] at k
    ·simp[gR] at hm
   ·exact h.box x q.1
  ·exact h.mono (by omega)
 ·exact h.mono (by omega)
theorem uM{n:Nat}{s:aP}(h:Used n s){g:Int}(hg:100≤g∧g≤999):Used (n+1) (jZ s g).1:=by
 have hok:=oV h.ok (g:=g) ⟨by omega,by omega⟩;unfold jZ at hok ⊢;split
 ·rename_i c;rw[if_pos c] at hok;cases q:gH s.boxes g with
  |none=>rw[g_ q];exact h.mono (by omega)
  |some i=>
   obtain⟨hi,hbi⟩:=eE q;rw[gZ q hi] at hok ⊢;have:=ug s.gone g;refine⟨hok,by have:=h.time;simp only;omega,by have:=h.gone;simp only;omega,fun x hx=>h.box x ((ga s.boxes i).subset hx),fun x hx=> ?_⟩;rcases jr.1 hx with e|e
   ·rw[e];exact hg
   ·exact h.kn x e
 ·exact h.mono (by omega)
theorem jh{s:aP}(h:aW s=true):kT s:=by
 have G:=bW.1 h;have H:=fk h;exact⟨⟨by have:=G.len;omega,by have:=G.oK;omega,fun b hb=>(H.boxes.mn b hb).wk,by have:=ld h;omega⟩,by have:=G.time;omega,by have:=G.time;omega⟩
structure kz (p:Bool) (n:Nat) (s:aP):Prop where
 ok:aW s=true
 use:p=true→Used n s
theorem kz.mono{p:Bool}{n m:Nat}{s:aP}(h:kz p n s)(hm:n≤m):kz p m s:=⟨h.ok,fun e=>(h.use e).mono hm⟩
theorem uO{w:Int}(h1:1≤w)(h2:w≤2)(p:Bool):kz p 0 ⟨w,0,[],[]⟩:=⟨(rn h1 h2).ok,fun _=>rn h1 h2⟩
theorem kz.box{p:Bool}{n:Nat}{s:aP}(h:kz p n s){b:cX}(hb:b∈s.boxes):(1≤b.gid∧b.gid≤9999)∧(p=true→100≤b.gid∧b.gid≤999):=
 ⟨((bW.1 h.ok).box b hb).1.gid,fun e=>((h.use e).box b hb).kn _ (.inl rfl)⟩
end Mx
namespace Mx
open Go
variable {M:Nat→Option Body}
structure a5 where
 AW:List UInt8
 out:List UInt8
 on:Bool
 over:Bool
 box:Int
 view:List Int
abbrev cN(x:a5):List T:=[S x.AW,S x.out,.bool x.on,.bool x.over,I x.box,ints x.view]
abbrev dw(x:a5):List T:=[S x.AW,S x.out,.bool x.on,.bool x.over,I x.box,.sl true 1 (au x.view)]
def fo:a5:=⟨[],[42,32,79,75,13,10],false,false,0,[]⟩
theorem cZ.aE(h:cZ.k M):run M 284 [] []=some (.a (dw fo),[]):=by
 refine aq (b:=cZ.m) h ⟨0, ?_⟩;simp[bB,cZ.m,cZ.b,mM,setAt,fo]
theorem c_.aE(h:c_.k M):run M 97 [] []=some (.a (dw fo),[]):=by
 refine aq (b:=c_.m) h ⟨0, ?_⟩;simp[bB,c_.m,c_.b,mM,setAt,fo]
end Mx
namespace Mx
open Go
def kF:List UInt8:=[42,32]
def zx:List UInt8:=[32,69,88,80,85,78,71,69,13,10]
def tn:List UInt8:=[32,69,88,73,83,84,83,13,10]
def se:List UInt8:=[42,32,66,89,69,32,98,111,120,13,10]
def my(G:List Int)(a:Nat×List UInt8)(g:Int):Nat×List UInt8:=if g∈G then(a.1+1,a.2) else(a.1,a.2++(kF++(dec ((a.1+1:Nat):Int)++zx)))
def gK(G l:List Int):Nat×List UInt8:=l.foldl (my G) (0,[])
theorem p_{G l:List Int}{i:Nat}(hi:i<l.length):gK G (l.take (i+1))=my G (gK G (l.take i)) l[i]:=by
 unfold gK;rw[List.take_succ_eq_append_getElem hi,List.foldl_append];rfl
theorem sd(G:List Int):∀(l:List Int) (a:Nat×List UInt8),(l.foldl (my G) a).1=a.1+(l.filter fun g=>decide (g∈G)).length
 |[],a=>by simp
 |g::l,a=>by
  rw[dW,sd G l,my];by_cases c:g∈G
  ·simp only[c,if_true,decide_true,List.filter_cons_of_pos,ae];omega
  ·simp only[c,if_false,decide_false,az,not_false_eq_true,List.filter_cons_of_neg]
theorem xH(G l:List Int):(gK G l).1=(l.filter fun g=>decide (g∈G)).length:=by
 unfold gK;rw[sd];simp
theorem nW(G l:List Int):(gK G l).1≤l.length:=by rw[xH];exact ea _ _
theorem uu(G:List Int):∀(l:List Int) (a:Nat×List UInt8),(∀g∈l,g∈G)→l.foldl (my G) a=(a.1+l.length,a.2)
 |[],a,_=>by simp
 |g::l,a,h=>by
  have h1:g∈G:=h g (dB ..);rw[dW,uu G l _ fun x hx=>h x (df _ hx)];simp only[my,h1,if_true,ae,aH,and_true];omega
theorem vC(G:List Int):gK G G=(G.length,[]):=by
 unfold gK;rw[uu G G _ fun _ h=>h];simp
theorem ur(G:List Int):∀(l:List Int) (a:Nat×List UInt8),a.1+l.length≤1048575→(l.foldl (my G) a).2.length≤a.2.length+40*l.length
 |[],a,_=>by simp
 |g::l,a,h=>by
  rw[dW];simp only[ae] at h ⊢;have h0:(my G a g).1+l.length≤1048575:=by unfold my;split<;>simp only<;>omega
  refine Nat.le_trans (ur G l _ h0) ?_;unfold my;split
  ·simp only;omega
  ·have:=fX (n:=((a.1+1:Nat):Int)) (by omega) (by omega);simp only[aN,kF,zx,ae,ai];omega
theorem kP(G l:List Int)(h:l.length≤1048575):(gK G l).2.length≤40*l.length:=by
 have:=ur G l (0,[]) (by simpa using h);simpa [gK] using this
theorem uX{G l:List Int}(hG:G.Nodup)(hl:l.Nodup):(G.any fun g=> !decide (g∈l))=decide ((l.filter fun g=>decide (g∈G)).length<G.length):=by
 have hf:(l.filter fun g=>decide (g∈G)).Nodup:=hl.filter _;have e:(l.filter fun g=>decide (g∈G)).Perm (G.filter fun g=>decide (g∈l)):=by
  refine(List.perm_ext_iff_of_nodup hf (hG.filter _)).2 fun a=> ?_
  simp only[fB,decide_eq_true_eq];exact And.comm
 rw[e.length_eq];clear e hf hl hG
 induction G with
 |nil=>simp
 |cons g G ih=>
  simp only[List.any_cons,jA,ae];by_cases c:g∈l
  ·simp only[c,decide_true,Bool.not_true,Bool.false_or,if_true,ae];rw[ih];simp
  ·have:=ea (fun g=>decide (g∈l)) G;simp only[c,decide_false,Bool.not_false,Bool.true_or,az,if_false];exact(decide_eq_true (by omega)).symm
def told(c:List Int→List Int→Bool)(x:a5)(s:aP):a5×List UInt8:=
 if x.box=0 then(x,[]) else match gH s.boxes x.box with
  |none=>({x with box:=0,view:=[]},se)
  |some k=>match s.boxes[k]? with
   |none=>(x,[])
   |some b=>({x with view:=aI b},(gK (aI b) x.view).2++if c (aI b) x.view=true then kF++(dec ((aI b).length:Int)++tn) else [])
def hH(G l:List Int):Bool:=G.any fun g=> !decide (g∈l)
def mc(G l:List Int):Bool:=decide ((gK G l).1<G.length)
theorem uS{x:a5}{s:aP}(hx:x.view.Nodup)(hs:∀b∈s.boxes,(aI b).Nodup):told hH x s=told mc x s:=by
 unfold told;split
 ·rfl
 ·split
  ·rfl
  ·split
   ·rfl
   ·rename_i b hb;have e:hH (aI b) x.view=mc (aI b) x.view:=by
     unfold hH mc;rw[uX (hs b (cT hb)) hx,xH]
    rw[e]
theorem iB{c:List Int→List Int→Bool}{x:a5}{s:aP}(h:x.box=0):told c x s=(x,[]):=by simp[told,h]
theorem sH(x:a5)(s:aP):told hH (told hH x s).1 s=((told hH x s).1,[]):=by
 by_cases c0:x.box=0
 ·rw[iB c0];exact iB c0
 ·cases hb:gH s.boxes x.box with
  |none=>
   have e:told hH x s=({x with box:=0,view:=[]},se):=by simp only[told,if_neg c0,hb]
   rw[e];exact iB rfl
  |some k=>
   obtain⟨hk,h2⟩:=eE hb;have e:told hH x s=({x with view:=aI s.boxes[k]},(gK (aI s.boxes[k]) x.view).2++if hH (aI s.boxes[k]) x.view=true then kF++(dec ((aI s.boxes[k]).length:Int)++tn) else []):=by
    simp only[told,if_neg c0,hb,cg hk]
   rw[e];have e2:hH (aI s.boxes[k]) (aI s.boxes[k])=false:=by
    unfold hH;rw[List.any_eq_false];intro g hg;simp[hg]
   simp only[told,if_neg c0,hb,cg hk,vC,e2,az,if_false,kC]
theorem uR{x:a5}{s:aP}(h:(told hH x s).1.box≠0):∃k,∃hk:k<s.boxes.length,gH s.boxes (told hH x s).1.box=some k∧(told hH x s).1.view=aI s.boxes[k]:=by
 by_cases c0:x.box=0
 ·rw[iB c0] at h;exact(h c0).elim
 ·cases hb:gH s.boxes x.box with
  |none=>
   have e:told hH x s=({x with box:=0,view:=[]},se):=by simp only[told,if_neg c0,hb]
   rw[e] at h;exact(h rfl).elim
  |some k=>
   obtain⟨hk,h2⟩:=eE hb;refine⟨k,hk, ?_⟩;simp only[told,if_neg c0,hb,cg hk,and_self]
theorem oL{s:aP}(h:aW s=true):∀b∈s.boxes,(aI b).Nodup:=by
 intro b hb;have G:=((bW.1 h).box b hb).1;unfold aI List.Nodup;rw[List.pairwise_map];exact G.jc
end Mx
namespace Mx
open Go
variable {M:Nat→Option Body}
theorem bn.aE(h:bn.k M)(x:a5)(hx:x.view.length≤1048576):run M 195 [.a (cN x)] []=some (.a (dw x),[]):=by
 have h1:x.view.length≤4294967296:=by omega
 refine aq (b:=bn.m) h ⟨0, ?_⟩;simp[bB,bn.m,bn.b,ab,setAt,aa,h1]
theorem cR.aE(h:cR.k M)(x:a5)(hx:x.view.length≤1048576):run M 190 [.a (cN x)] []=some (.a (dw x),[]):=by
 have h1:=dv.aE h.2 x.view hx;refine aq (b:=cR.m) h.1 ⟨0, ?_⟩;simp[bB,cR.m,cR.b,ab,setAt,aa,h1]
def Au(b:UInt8):List UInt8:=if b=34∨b=92 then [92,b] else [b]
def pA(l:List UInt8):List UInt8:=l.flatMap Au
theorem oQ(l:List UInt8):(pA l).length≤2*l.length:=by
 induction l with
 |nil=>simp[pA]
 |cons b l ih=>
  simp only[pA,ct,aN,ae] at ih ⊢;have:(Au b).length≤2:=by unfold Au;split<;>simp
  omega
theorem vq{l:List UInt8}{i:Nat}(hi:i<l.length):pA (l.take (i+1))=pA (l.take i)++Au l[i]:=by
 unfold pA;rw[List.take_succ_eq_append_getElem hi,List.flatMap_append];simp
def yw(l:List UInt8)(i:Nat)(n:Nat):St:={t:=[(0,.c (S l)),(4,.c (S (34::pA (l.take i)))),(5,.c (I i))],o:=[],n:=n}
theorem wG(cf:bH)(k:Nat)(l:List UInt8)(hl:l.length≤1048576)(i:Nat)(hi:i<l.length)(h1:¬l[i]<32)(h2:¬126<l[i])(n:Nat):
  ∃n',b9 cf k a_.l0 (yw l i n)=some (.normal,yw l (i+1) n'):=by
 have e1:¬((l[i].toNat:Int)<32):=fun h=>h1 ((tV _ 32).1 h)
 have e2:¬((126:Int)<(l[i].toNat:Int)):=fun h=>h2 ((tV 126 _).1 h)
 have e4:IntKind.i64.wrap ((i:Int)+1)=((i+1:Nat):Int):=wrap_i64 (by omega) (by omega);have e5:=od l i hi;have e6:=vq hi;have hz:=oQ (l.take i);rw[dJ] at hz;have p1:(0:Int)≤(i:Int)+1:=by omega
 have p2:i+1≤l.length:=by omega
 by_cases h34:l[i]=34
 ·have e7:Au 34=[92,34]:=rfl;simp (disch:=(first|omega|(simp;done)|(simp;omega))) [yw,a_.l0,hi,ar,e1,e2,h34,e4,e5,e6,p1,p2,e7]
 ·by_cases h92:l[i]=92
  ·have e7:Au 92=[92,92]:=rfl;simp (disch:=(first|omega|(simp;done)|(simp;omega))) [yw,a_.l0,hi,ar,e1,e2,h92,e4,e5,e6,p1,p2,e7]
  ·have e7:Au l[i]=[l[i]]:=by simp[Au,h34,h92]
   have f1:¬((l[i].toNat:Int)=34):=fun h=>h34 ((n8 _ 34).1 h)
   have f2:¬((l[i].toNat:Int)=92):=fun h=>h92 ((n8 _ 92).1 h)
   have g1:¬(l[i].toNat=34):=by omega
   have g2:¬(l[i].toNat=92):=by omega
   simp (disch:=(first|omega|(simp;done)|(simp;omega))) [yw,a_.l0,hi,ar,e1,e2,f1,f2,g1,g2,e4,e5,e6,p1,p2,e7]
def bad(b:UInt8):Bool:=decide (b<32)||decide (126<b)
def quoted(l:List UInt8):List UInt8×Bool:=if l.any bad then([],false) else if 60<l.length then([],false) else(34::(pA l++[34]),true)
theorem vI(l:List UInt8):∃n,n≤l.length∧(∀i (h:i<l.length),i<n→¬l[i]<32∧¬126<l[i])∧((n=l.length∧l.any bad=false)∨(∃h:n<l.length,(l[n]<32∨126<l[n])∧l.any bad=true)):=by
 induction l with
 |nil=>exact⟨0,Nat.le_refl _,fun i h=>by simp at h,.inl ⟨rfl,rfl⟩⟩
 |cons b l ih=>
  by_cases hb:b<32∨126<b
  ·exact⟨0,by simp,fun i _ h=>by omega,.inr ⟨by simp,hb,by simp[bad];exact .inl hb⟩⟩
  ·obtain⟨n,h1,h2,h3⟩:=ih;refine⟨n+1,by simpa using h1, ?_, ?_⟩
   ·intro i h hi;cases i with
    |zero=>simp;exact⟨by simpa using fun q=>hb (.inl q),by simpa using fun q=>hb (.inr q)⟩
    |succ i=>simpa using h2 i (by simpa using h) (by omega)
   ·rcases h3 with⟨rfl,h⟩|⟨h,q1,q2⟩
    ·left;refine⟨rfl, ?_⟩;have:bad b=false:=by simp[bad];exact⟨by simpa using fun q=>hb (.inl q),by simpa using fun q=>hb (.inr q)⟩
     simp[List.any_cons,this];simpa using h
    ·right;exact⟨by simpa using h,by simpa using q1,by simp[List.any_cons];right;simpa using q2⟩
theorem a_.aE(h:a_.k M)(l:List UInt8)(hl:l.length≤1048576):run M 319 [.c (S l)] []=some (.hC [.c (S (quoted l).1),.c (.bool (quoted l).2)],[]):=by
 obtain⟨n,hn,hgood,hend⟩:=vI l;have hz:=oQ l;refine aq (b:=a_.m) h ⟨n+1, ?_⟩;obtain⟨r,hr,hp⟩:=rO (f:=b9 (run M) (n+1) a_.l0) (yw l) (fun r=>if l.any bad then ∃m,r=(.ret,{t:=[(2,.c (S [])),(3,.c (.bool false))],o:=[],n:=m}) else ∃m,r=(.exit 0,{t:=[(0,.c (S l)),(4,.c (S (34::pA l))),(5,.c (I l.length)),(9,.c (.bool false))],o:=[],n:=m})) n
  (fun i hi x=>wG _ _ l hl i (by omega) (hgood i (by omega) hi).1 (hgood i (by omega) hi).2 x)
  (by
   intro x;rcases hend with⟨rfl,h⟩|⟨h1,h2,h3⟩
   ·simp[yw,a_.l0,h]
   ·rcases h2 with h2|h2
    ·have e1:((l[n].toNat:Int)<32):=(tV _ 32).2 h2;simp[yw,a_.l0,h1,h3,ar,e1]
    ·have e1:((126:Int)<(l[n].toNat:Int)):=(tV 126 _).2 h2;have e2:¬((l[n].toNat:Int)<32):=by omega
     simp[yw,a_.l0,h1,h3,ar,e1,e2])
  (n+1) (by omega) 2000064
 simp[yw,pA] at hr;cases hb:l.any bad with
 |true=>
  rw[hb,if_pos rfl] at hp;obtain⟨m,rfl⟩:=hp;simp[bB,a_.m,a_.b,ab,hr,quoted,hb]
 |false=>
  rw[hb,if_neg (by simp)] at hp;obtain⟨m,rfl⟩:=hp;by_cases h60:60<l.length
  ·have e1:(60:Int)<(l.length:Int):=by omega
   simp[bB,a_.m,a_.b,ab,hr,quoted,hb,h60,e1]
  ·have e1:¬(60:Int)<(l.length:Int):=by omega
   simp (disch:=(first|omega|(simp;done)|(simp;omega))) [bB,a_.m,a_.b,ab,hr,quoted,hb,h60,e1]
structure Token where
 kind:Int
 text:List UInt8
def aJ(x:Token):List T:=[I x.kind,S x.text]
def gO(x:Token):List UInt8:=if x.kind=1 then x.text else if(quoted x.text).2 then(quoted x.text).1 else [123]++dec x.text.length++[125,13,10]++x.text
theorem cu.aE(h:cu.k M)(x:Token)(hx:x.text.length≤1048576):run M 328 [.a (aJ x)] []=some (.c (S (gO x)),[]):=by
 have h1:=a_.aE h.2.2 x.text hx;have h2:=a0.aE h.2.1 x.text.length (by omega) (by omega);have h3:=fX (n:=x.text.length) (by omega) (by omega);refine aq (b:=cu.m) h.1 ⟨0, ?_⟩;by_cases hk:x.kind=1
 ·simp[bB,cu.m,cu.b,ab,aJ,gO,hk]
 ·cases hq:(quoted x.text).2 with
  |true=>
   rw[hq] at h1;simp[bB,cu.m,cu.b,ab,aJ,gO,hk,hq,h1]
  |false=>
   rw[hq] at h1;simp (disch:=(first|omega|(simp;done)|(simp;omega))) [bB,cu.m,cu.b,ab,aJ,gO,hk,hq,h1,h2,ak]
structure pd where
 i:Nat
 s:aP
 w:Bool
 v1:Nat
 v2:Nat
 ic:Nat
 q:Int
 n:Nat
structure pD where
 R:List (List T)
 u5:Nat
 u8:Nat
 N:Nat
 base:Nat
def tU(s:pd):List T:=if s.w=true then [I s.s.eP,I s.s.time,.row 15502 s.v1 0 s.s.boxes.length,.row 15503 s.v2 0 s.s.gone.length] else ao s.s
def tR(s:pd):List (Nat×Ob):=if s.w=true then [(15502,⟨s.v1,7,true,false,s.s.boxes.map ah⟩),(15503,⟨s.v2,1,true,false,au s.s.gone⟩)] else []
def tT(c:pD)(s:pd):List (Nat×Ob):=ei c.R s.ic s.q::(5,⟨c.u5,4,true,true,[tU s]⟩)::(8,⟨c.u8,4,true,true,[pG]⟩)::tR s
def tS(c:pD)(i:Nat)(e:List (Nat×V)):List (Nat×V):=(0,.c (.ptr 0 0 0 0))::(2,.c (I c.N))::(3,.c (I c.base))::(5,.c (.ptr 5 c.u5 0 0))::(8,.c (.ptr 8 c.u8 0 0))::(9,.c (I i))::e
def kr(c:pD)(s:pd)(e:List (Nat×V)):St:={t:=tS c s.i e,o:=tT c s,n:=s.n}
def Bx(c:pD)(i:Nat)(s:aP)(w:Bool)(ic:Nat)(q:Int)(e:List (Nat×V))(y:Nat×Nat×Nat):St:=kr c ⟨i,s,w,y.1,y.2.1,ic,q,y.2.2⟩ e
abbrev sB(box gid x:Int):List (Nat×V):=[(10,.c (I box)),(11,.c (I gid)),(13,.c (I x))]
def wm(M:Nat→Option Body)(c:pD)(k:Nat)(s:pd)(box gid x:Int)(s':aP)(ic':Nat)(q':Int):Prop:=
 ∃v1' v2' n',b9 (run M) k aM.br (kr c s (sB box gid x))=some (.normal,kr c ⟨s.i,s',true,v1',v2',ic',q',n'⟩ [])
structure C1 (s:pd):Prop where
 e7:(s.s.boxes.map ah).length=s.s.boxes.length
 e8:(au s.s.gone).length=s.s.gone.length
theorem Aj(s:pd):C1 s:=⟨by simp,bK _⟩
theorem AB(c:pD)(k:Nat)(s:pd)(box gid x:Int)(f ic1 ic2:Nat)(tx:ByteArray)(q1 q2:Int)(s':aP)(ok:Bool)(hb:¬box=0)(hx:¬x=0)(hx6:x<6)(hbase:c.base≤1000)(hi:s.i≤1000)
  (h1:run M 125 [.c (.ptr 0 0 0 0),.c (I 8)] [ei c.R s.ic s.q]=some (.c (I f),[ei c.R ic1 q1]))
  (h2:run M 174 [.c (.ptr 0 0 0 0)] [ei c.R ic1 q1]=some (.c (.str tx),[ei c.R ic2 q2]))
  (h3:run M 279 [.a (ao s.s),.c (I box),.c (I ((c.base:Int)+(s.i:Int))),.c (I f),.c (.str tx)] []=some (.hC [.a (bm s'),.c (.bool ok)],[])):
  wm M c k s box gid x s' ic2 q2:=by
 have e4:IntKind.i64.wrap ((c.base:Int)+(s.i:Int))=(c.base:Int)+(s.i:Int):=wrap_i64 (by omega) (by omega);obtain⟨e7,e8⟩:=Aj s;have e9:(s'.boxes.map ah).length=s'.boxes.length:=by simp
 have e10:=bK s'.gone;obtain⟨R,u5,u8,N,base⟩:=c;obtain⟨i,st,w,v1,v2,ic,q,n⟩:=s;simp only at*;simp only[wm,kr,tS,tT,tU,tR,sB];simp only[ao,bm,boxes,ints] at h3 ⊢;have m1:(st.boxes.map ah).take st.boxes.length=st.boxes.map ah:=aa (by omega);have m2:(au st.gone).take st.gone.length=au st.gone:=aa (by omega);generalize s'.boxes.map ah=rb' at*;generalize au s'.gone=rg' at*;generalize st.boxes.map ah=rb at*;generalize au st.gone=rg at*;cases w
 ·simp only[az,if_false];simp (maxSteps:=9^9) [aM.br,ab,setAt,h1,h2,h3,hb,hx,hx6,e4,e9,e10]
 ·simp only[if_true];simp (maxSteps:=9^9) [aM.br,ab,setAt,h1,h2,h3,hb,hx,hx6,e4,e7,e8,e9,e10,m1,m2]
theorem yG(c:pD)(k:Nat)(s:pd)(box gid x:Int)(f ic1:Nat)(q1:Int)(s':aP)(ok:Bool)(hb:¬box=0)(hx:¬x=0)(hx6:¬x<6)(hx9:x<9)
  (h1:run M 125 [.c (.ptr 0 0 0 0),.c (I 8)] [ei c.R s.ic s.q]=some (.c (I f),[ei c.R ic1 q1]))
  (h3:run M 280 [.a (ao s.s),.c (I box),.c (I gid),.c (I f)] []=some (.hC [.a (bm s'),.c (.bool ok)],[])):
  wm M c k s box gid x s' ic1 q1:=by
 obtain⟨e7,e8⟩:=Aj s;have e9:(s'.boxes.map ah).length=s'.boxes.length:=by simp
 have e10:=bK s'.gone;obtain⟨R,u5,u8,N,base⟩:=c;obtain⟨i,st,w,v1,v2,ic,q,n⟩:=s;simp only at*;simp only[wm,kr,tS,tT,tU,tR,sB];simp only[ao,bm,boxes,ints] at h3 ⊢;have m1:(st.boxes.map ah).take st.boxes.length=st.boxes.map ah:=aa (by omega);have m2:(au st.gone).take st.gone.length=au st.gone:=aa (by omega);generalize s'.boxes.map ah=rb' at*;generalize au s'.gone=rg' at*;generalize st.boxes.map ah=rb at*;generalize au st.gone=rg at*;cases w
 ·simp only[az,if_false];simp (maxSteps:=9^9) [aM.br,ab,setAt,h1,h3,hb,hx,hx6,hx9,e9,e10]
 ·simp only[if_true];simp (maxSteps:=9^9) [aM.br,ab,setAt,h1,h3,hb,hx,hx6,hx9,e7,e8,e9,e10,m1,m2]
theorem yK(c:pD)(k:Nat)(s:pd)(box gid x:Int)(s':aP)(ok:Bool)(hb:¬box=0)(hx:x=9)
  (h3:run M 281 [.a (ao s.s),.c (I box),.c (I gid)] []=some (.hC [.a (bm s'),.c (.bool ok)],[])):
  wm M c k s box gid x s' s.ic s.q:=by
 subst hx;obtain⟨e7,e8⟩:=Aj s;have e9:(s'.boxes.map ah).length=s'.boxes.length:=by simp
 have e10:=bK s'.gone;obtain⟨R,u5,u8,N,base⟩:=c;obtain⟨i,st,w,v1,v2,ic,q,n⟩:=s;simp only at*;simp only[wm,kr,tS,tT,tU,tR,sB];simp only[ao,bm,boxes,ints] at h3 ⊢;have m1:(st.boxes.map ah).take st.boxes.length=st.boxes.map ah:=aa (by omega);have m2:(au st.gone).take st.gone.length=au st.gone:=aa (by omega);generalize s'.boxes.map ah=rb' at*;generalize au s'.gone=rg' at*;generalize st.boxes.map ah=rb at*;generalize au st.gone=rg at*;cases w
 ·simp only[az,if_false];simp (maxSteps:=9^9) [aM.br,ab,setAt,h3,hb,e9,e10]
 ·simp only[if_true];simp (maxSteps:=9^9) [aM.br,ab,setAt,h3,hb,e7,e8,e9,e10,m1,m2]
def Cc:List (List UInt8):=[[105,110,98,111,120],[119,111,114,107],[110,101,119],[111,116,104,101,114]]
def Cd:List (List UInt8):=[[105,110,98,111,120],[119,111,114,107],[111,108,100]]
theorem yF(c:pD)(k:Nat)(s:pd)(box gid x:Int)(ic1:Nat)(tx:ByteArray)(q1:Int)(s':aP)(ok:Bool)(hb:¬box=0)(hx:x=10)
  (h1:run M 185 [.c (.ptr 0 0 0 0),.c (.sl false 1 (Cc.map fun s=>[S s]))] [ei c.R s.ic s.q]=some (.c (.str tx),[ei c.R ic1 q1]))
  (h3:run M 282 [.a (ao s.s),.c (I box),.c (.str tx)] []=some (.hC [.a (bm s'),.c (.bool ok)],[])):
  wm M c k s box gid x s' ic1 q1:=by
 subst hx;obtain⟨e7,e8⟩:=Aj s;have e9:(s'.boxes.map ah).length=s'.boxes.length:=by simp
 have e10:=bK s'.gone;simp only[Cc,aL,bI] at h1;obtain⟨R,u5,u8,N,base⟩:=c;obtain⟨i,st,w,v1,v2,ic,q,n⟩:=s;simp only at*;simp only[wm,kr,tS,tT,tU,tR,sB];simp only[ao,bm,boxes,ints] at h3 ⊢;have m1:(st.boxes.map ah).take st.boxes.length=st.boxes.map ah:=aa (by omega);have m2:(au st.gone).take st.gone.length=au st.gone:=aa (by omega);generalize s'.boxes.map ah=rb' at*;generalize au s'.gone=rg' at*;generalize st.boxes.map ah=rb at*;generalize au st.gone=rg at*;cases w
 ·simp only[az,if_false];simp (maxSteps:=9^9) [aM.br,ab,setAt,h1,h3,hb,e9,e10]
 ·simp only[if_true];simp (maxSteps:=9^9) [aM.br,ab,setAt,h1,h3,hb,e7,e8,e9,e10,m1,m2]
theorem yH(c:pD)(k:Nat)(s:pd)(box gid x:Int)(ic1:Nat)(tx:ByteArray)(q1:Int)(s':aP)(ok:Bool)(hb:box=0∨x=0)(hbase:c.base≤1000)(hi:s.i≤1000)
  (h1:run M 185 [.c (.ptr 0 0 0 0),.c (.sl false 1 (Cd.map fun s=>[S s]))] [ei c.R s.ic s.q]=some (.c (.str tx),[ei c.R ic1 q1]))
  (h3:run M 278 [.a (ao s.s),.c (I ((c.base:Int)+(s.i:Int))),.c (.str tx)] []=some (.hC [.a (bm s'),.c (.bool ok)],[])):
  wm M c k s box gid x s' ic1 q1:=by
 have e4:IntKind.i64.wrap ((c.base:Int)+(s.i:Int))=(c.base:Int)+(s.i:Int):=wrap_i64 (by omega) (by omega);obtain⟨e7,e8⟩:=Aj s;have e9:(s'.boxes.map ah).length=s'.boxes.length:=by simp
 have e10:=bK s'.gone;simp only[Cd,aL,bI] at h1;obtain⟨R,u5,u8,N,base⟩:=c;obtain⟨i,st,w,v1,v2,ic,q,n⟩:=s;simp only at*;simp only[wm,kr,tS,tT,tU,tR,sB];simp only[ao,bm,boxes,ints] at h3 ⊢;have m1:(st.boxes.map ah).take st.boxes.length=st.boxes.map ah:=aa (by omega);have m2:(au st.gone).take st.gone.length=au st.gone:=aa (by omega);generalize s'.boxes.map ah=rb' at*;generalize au s'.gone=rg' at*;generalize st.boxes.map ah=rb at*;generalize au st.gone=rg at*;by_cases hb0:box=0
 ·subst hb0;cases w
  ·simp only[az,if_false];simp (maxSteps:=9^9) [aM.br,ab,setAt,h1,h3,e4,e9,e10]
  ·simp only[if_true];simp (maxSteps:=9^9) [aM.br,ab,setAt,h1,h3,e4,e7,e8,e9,e10,m1,m2]
 ·have hx:x=0:=by omega
  subst hx;cases w
  ·simp only[az,if_false];simp (maxSteps:=9^9) [aM.br,ab,setAt,h1,h3,hb0,e4,e9,e10]
  ·simp only[if_true];simp (maxSteps:=9^9) [aM.br,ab,setAt,h1,h3,hb0,e4,e7,e8,e9,e10,m1,m2]
theorem yI(c:pD)(k:Nat)(s:pd)(box gid x:Int)(ic1:Nat)(q1:Int)(s':aP)(ok:Bool)(hb:¬box=0)(hx:11≤x)
  (h1:run M 175 [.c (.ptr 0 0 0 0),.c (I 3)] [ei c.R s.ic s.q]=some (.c (.bool true),[ei c.R ic1 q1]))
  (h3:run M 283 [.a (ao s.s),.c (I box)] []=some (.hC [.a (bm s'),.c (.bool ok)],[])):
  wm M c k s box gid x s' ic1 q1:=by
 have x0:¬x=0:=by omega
 have x6:¬x<6:=by omega
 have x9:¬x<9:=by omega
 have y9:¬x=9:=by omega
 have y10:¬x=10:=by omega
 obtain⟨e7,e8⟩:=Aj s;have e9:(s'.boxes.map ah).length=s'.boxes.length:=by simp
 have e10:=bK s'.gone;obtain⟨R,u5,u8,N,base⟩:=c;obtain⟨i,st,w,v1,v2,ic,q,n⟩:=s;simp only at*;simp only[wm,kr,tS,tT,tU,tR,sB];simp only[ao,bm,boxes,ints] at h3 ⊢;have m1:(st.boxes.map ah).take st.boxes.length=st.boxes.map ah:=aa (by omega);have m2:(au st.gone).take st.gone.length=au st.gone:=aa (by omega);generalize s'.boxes.map ah=rb' at*;generalize au s'.gone=rg' at*;generalize st.boxes.map ah=rb at*;generalize au st.gone=rg at*;cases w
 ·simp only[az,if_false];simp (maxSteps:=9^9) [aM.br,ab,setAt,h1,h3,hb,x0,x6,x9,y9,y10,e9,e10]
 ·simp only[if_true];simp (maxSteps:=9^9) [aM.br,ab,setAt,h1,h3,hb,x0,x6,x9,y9,y10,e7,e8,e9,e10,m1,m2]
theorem yE(c:pD)(k:Nat)(s:pd)(box gid x:Int)(ic1:Nat)(q1:Int)(hb:¬box=0)(hx:11≤x)
  (h1:run M 175 [.c (.ptr 0 0 0 0),.c (I 3)] [ei c.R s.ic s.q]=some (.c (.bool false),[ei c.R ic1 q1])):
  ∃n',b9 (run M) k aM.br (kr c s (sB box gid x))=some (.normal,kr c ⟨s.i,s.s,s.w,s.v1,s.v2,ic1,q1,n'⟩ [(10,.c (I box)),(51,.c (.bool false))]):=by
 have x0:¬x=0:=by omega
 have x6:¬x<6:=by omega
 have x9:¬x<9:=by omega
 have y9:¬x=9:=by omega
 have y10:¬x=10:=by omega
 obtain⟨R,u5,u8,N,base⟩:=c;obtain⟨i,st,w,v1,v2,ic,q,n⟩:=s;simp only at*;simp only[kr,tS,tT,tU,tR,sB];simp only[ao,boxes,ints];generalize st.boxes.map ah=rb at*;generalize au st.gone=rg at*;cases w
 ·simp only[az,if_false];simp (maxSteps:=9^9) [aM.br,ab,h1,hb,x0,x6,x9,y9,y10]
 ·simp only[if_true];simp (maxSteps:=9^9) [aM.br,ab,h1,hb,x0,x6,x9,y9,y10]
abbrev yL:List (Nat×V):=[(10,.c (I 0)),(11,.c (I 0))]
theorem AF(c:pD)(k:Nat)(s:pd)(x:Int)(ic1:Nat)(q1:Int)(hbx:s.s.boxes=[])
  (h1:run M 125 [.c (.ptr 0 0 0 0),.c (I 12)] [ei c.R s.ic s.q]=some (.c (I x),[ei c.R ic1 q1]))
  (X:Nat→St) (hX:∀n,b9 (run M) k aM.br (kr c ⟨s.i,s.s,s.w,s.v1,s.v2,ic1,q1,n⟩ (sB 0 0 x))=some (.normal,X n)):
  ∃n,b9 (run M) k aM.hd (kr c s yL)=some (.normal,X n):=by
 obtain⟨R,u5,u8,N,base⟩:=c;obtain⟨i,st,w,v1,v2,ic,q,n⟩:=s;simp only at*;simp only[kr,tS,tT,tU,tR,sB,yL] at hX ⊢;simp only[ao,boxes,ints,hbx,bI,ai] at hX ⊢;generalize au st.gone=rg at*;cases w
 ·simp only[az,if_false] at hX ⊢;simp (maxSteps:=9^9) [aM.hd,ab,h1,hX];exact⟨_,rfl⟩
 ·simp only[if_true] at hX ⊢;simp (maxSteps:=9^9) [aM.hd,ab,h1,hX];exact⟨_,rfl⟩
theorem AE(c:pD)(k:Nat)(s:pd)(x:Int)(j ic0 ic1:Nat)(q0 q1:Int)(hj:j<s.s.boxes.length)(hm:s.s.boxes[j].af=[])
  (h0:run M 125 [.c (.ptr 0 0 0 0),.c (I s.s.boxes.length)] [ei c.R s.ic s.q]=some (.c (I j),[ei c.R ic0 q0]))
  (h1:run M 125 [.c (.ptr 0 0 0 0),.c (I 12)] [ei c.R ic0 q0]=some (.c (I x),[ei c.R ic1 q1]))
  (X:Nat→St) (hX:∀n,b9 (run M) k aM.br (kr c ⟨s.i,s.s,s.w,s.v1,s.v2,ic1,q1,n⟩ (sB s.s.boxes[j].gid 0 x))=some (.normal,X n)):
  ∃n,b9 (run M) k aM.hd (kr c s yL)=some (.normal,X n):=by
 obtain⟨e7,e8⟩:=Aj s;obtain⟨R,u5,u8,N,base⟩:=c;obtain⟨i,st,w,v1,v2,ic,q,n⟩:=s;simp only at*;have hj':j<st.boxes.length:=hj;have a1:∀hh,(st.boxes.map ah)[j]'hh=ah st.boxes[j]:=by intro hh;simp
 have m1:(st.boxes.map ah).take st.boxes.length=st.boxes.map ah:=aa (by omega);have hl:0<st.boxes.length:=by omega
 simp only[kr,tS,tT,tU,tR,sB,yL] at hX ⊢;simp only[ah,af,ints,hm,bI] at a1;simp only[ao,boxes,ints] at hX ⊢;generalize st.boxes[j]=b at*;generalize st.boxes.map ah=rb at*;generalize au st.gone=rg at*;generalize au b.gone=rbg at*;generalize st.boxes.length=nb at*;cases w
 ·simp only[az,if_false] at hX ⊢;simp (maxSteps:=9^9) [aM.hd,ab,setAt,h0,h1,hX,hl,hj,e7,a1];exact⟨_,rfl⟩
 ·simp only[if_true] at hX ⊢;simp (maxSteps:=9^9) [aM.hd,ab,setAt,h0,h1,hX,hl,hj,e7,a1];exact⟨_,rfl⟩
theorem AD(c:pD)(k:Nat)(s:pd)(x:Int)(j l ic0 ic1 ic2:Nat)(q0 q1 q2:Int)(hj:j<s.s.boxes.length)(hl:l<s.s.boxes[j].af.length)
  (h0:run M 125 [.c (.ptr 0 0 0 0),.c (I s.s.boxes.length)] [ei c.R s.ic s.q]=some (.c (I j),[ei c.R ic0 q0]))
  (h2:run M 125 [.c (.ptr 0 0 0 0),.c (I s.s.boxes[j].af.length)] [ei c.R ic0 q0]=some (.c (I l),[ei c.R ic2 q2]))
  (h1:run M 125 [.c (.ptr 0 0 0 0),.c (I 12)] [ei c.R ic2 q2]=some (.c (I x),[ei c.R ic1 q1]))
  (X:Nat→St) (hX:∀n,b9 (run M) k aM.br (kr c ⟨s.i,s.s,s.w,s.v1,s.v2,ic1,q1,n⟩ (sB s.s.boxes[j].gid (s.s.boxes[j].af[l]).gid x))=some (.normal,X n)):
  ∃n,b9 (run M) k aM.hd (kr c s yL)=some (.normal,X n):=by
 obtain⟨e7,e8⟩:=Aj s;obtain⟨R,u5,u8,N,base⟩:=c;obtain⟨i,st,w,v1,v2,ic,q,n⟩:=s;simp only at*;have hj':j<st.boxes.length:=hj;have hl':l<st.boxes[j].af.length:=hl;have a1:∀hh,(st.boxes.map ah)[j]'hh=ah st.boxes[j]:=by intro hh;simp
 have a2:∀hh:l<(st.boxes[j].af.map aD).length,(st.boxes[j].af.map aD)[l]'hh=aD (st.boxes[j].af[l]'hl'):=by intro hh;simp
 have e9:(st.boxes[j].af.map aD).length=st.boxes[j].af.length:=by simp
 have m1:(st.boxes.map ah).take st.boxes.length=st.boxes.map ah:=aa (by omega);have m2:(st.boxes[j].af.map aD).take st.boxes[j].af.length=st.boxes[j].af.map aD:=aa (by omega);have hl0:0<st.boxes.length:=by omega
 have hl1:0<st.boxes[j].af.length:=by omega
 simp only[kr,tS,tT,tU,tR,sB,yL] at hX ⊢;simp only[ah,af,ints] at a1;simp only[aD] at a2;simp only[ao,boxes,ints] at hX ⊢;generalize st.boxes[j].af[l]=m at*;generalize st.boxes[j].af.map aD=rm at*;generalize st.boxes[j].af.length=nm at*;generalize st.boxes[j]=b at*;generalize st.boxes.map ah=rb at*;generalize au st.gone=rg at*;generalize au b.gone=rbg at*;generalize st.boxes.length=nb at*;cases w
 ·simp only[az,if_false] at hX ⊢;simp (maxSteps:=9^9) [aM.hd,ab,setAt,h0,h1,h2,hX,hl,hl0,hl1,hj,e7,e9,a1,a2];exact⟨_,rfl⟩
 ·simp only[if_true] at hX ⊢;simp (maxSteps:=9^9) [aM.hd,ab,setAt,h0,h1,h2,hX,hl,hl0,hl1,hj,e7,e9,a1,a2];exact⟨_,rfl⟩
abbrev B9(e:Bool)(g:Int):List (Nat×V):=if e=true then [(10,.c (I g)),(51,.c (.bool false))] else []
theorem Bw(c:pD)(k:Nat)(s:pd)(st':aP)(w':Bool)(ic':Nat)(q':Int)(e:Bool)(g:Int)(hi:s.i<c.N)(hN:c.N≤1000)
  (hX:∀n,∃y,b9 (run M) k aM.hd (kr c {s with n:=n} yL)=some (.normal,Bx c s.i st' w' ic' q' (B9 e g) y)):
  ∃y,b9 (run M) k aM.l0 (kr c s [])=some (.normal,Bx c (s.i+1) st' w' ic' q' [] y):=by
 obtain⟨X,hX⟩:=Classical.skolem.1 hX;obtain⟨R,u5,u8,N,base⟩:=c;obtain⟨i,st,w,v1,v2,ic,q,n⟩:=s;simp only at*;have e5:=dS (i:=i) (by omega);simp only[Bx,kr,tS,tT,tU,tR,yL,B9] at hX ⊢;simp only[ao,boxes,ints] at hX ⊢;generalize st.boxes.map ah=rb at*;generalize au st.gone=rg at*;generalize st'.boxes.map ah=rb' at*;generalize au st'.gone=rg' at*;cases w<;>cases w'<;>cases e<;>simp only[az,if_false,if_true] at hX ⊢<;>simp (maxSteps:=9^9) [aM.l0,hX,hi,e5]<;>exact⟨_,_,_,⟨⟨rfl,rfl⟩,rfl,rfl⟩,rfl⟩
theorem AG(c:pD)(k:Nat)(s:pd)(hi:¬s.i<c.N):
  ∃n',b9 (run M) k aM.l0 (kr c s [])=some (.exit 0,kr c {s with n:=n'} [(16,.c (.bool false))]):=by
 obtain⟨R,u5,u8,N,base⟩:=c;obtain⟨i,st,w,v1,v2,ic,q,n⟩:=s;simp only at*;simp only[kr,tS,tT,tU,tR];simp only[ao,boxes,ints];generalize st.boxes.map ah=rb at*;generalize au st.gone=rg at*;cases w<;>simp only[az,if_false,if_true]<;>simp (maxSteps:=9^9) [aM.l0,hi]
structure CG (M:Nat→Option Body):Prop where
 below:a4.k M
 text:dD.k M
 once:dc.k M
 pick:cG.k M
 make:ba.k M
 put:cv.k M
 mark:cm.k M
 drop:cn.k M
 name:bN.k M
 Cz:cy.k M
theorem ql(K:CG M)(c:pD)(hR:Bytes c.R)(k:Nat)(p:Bool)(m:Nat)(st:aP)(hs:kz p m st)(i ic:Nat)(q:Int)(hic:ic≤c.R.length)(hb1:100≤c.base)(hb2:c.base+i≤999)(w:Bool)(v1 v2:Nat)(box gid:Int)(x:Nat)
  (hbox:box=0∨(1≤box∧box≤9999)∧(p=true→100≤box∧box≤999)):
  ∃(e:Bool) (st':aP) (w':Bool) (ic':Nat) (q':Int),kz p (m+1) st'∧ic'≤c.R.length∧(box=0∨w=true→w'=true)∧
   ∀n,∃y,b9 (run M) k aM.br (kr c ⟨i,st,w,v1,v2,ic,q,n⟩ (sB box gid x))=some (.normal,Bx c i st' w' ic' q' (B9 e box) y):=by
 have hg:100≤(c.base:Int)+(i:Int)∧(c.base:Int)+(i:Int)≤999:=⟨by omega,by omega⟩;have n3:∀s∈Cd,s∈ox∧s.length≤12:=by decide
 have n4:∀s∈Cc,s∈ox∧s.length≤12:=by decide
 by_cases c0:box=0∨x=0
 ·obtain⟨nm,ic1,q1,hnm,hc1,h1⟩:=cG.aE K.pick hR ic q hic Cd (by decide) (by decide);have h3:=ba.aE K.make st (jh hs.ok) ((c.base:Int)+(i:Int)) nm (by have:=(n3 nm hnm).2;omega);refine⟨false,_,true,ic1,q1,⟨oz hs.ok _ _,fun z=>uL (hs.use z) hg (n3 nm hnm).1⟩,hc1,fun _=>rfl,fun n=> ?_⟩;obtain⟨v1',v2',n',h⟩:=yH c k ⟨i,st,w,v1,v2,ic,q,n⟩ box gid x ic1 _ q1 _ _ (by omega) (by omega) (by simp only;omega) h1 h3;exact⟨(v1',v2',n'),h⟩
 have d0:¬box=0:=fun e=>c0 (.inl e)
 have d1:¬(x:Int)=0:=fun e=>c0 (.inr (by omega))
 by_cases c6:x<6
 ·obtain⟨f,ic1,q1,hf,hc1,h1⟩:=a4.aE K.below hR ic q hic 8 (by omega) (by omega);simp only[cq] at h1;obtain⟨tx,ic2,q2,htx,hc2,h2⟩:=dD.aE K.text hR ic1 q1 hc1;have h3:=cv.aE K.put st (jh hs.ok) box ((c.base:Int)+(i:Int)) f tx;refine⟨false,_,true,ic2,q2,⟨sW hs.ok _ _ _ _,fun z=>wv (hs.use z) box hg f tx⟩,hc2,fun _=>rfl,fun n=> ?_⟩;obtain⟨v1',v2',n',h⟩:=AB c k ⟨i,st,w,v1,v2,ic,q,n⟩ box gid x f ic1 ic2 _ q1 q2 _ _ d0 d1 (by omega) (by omega) (by simp only;omega) h1 h2 h3;exact⟨(v1',v2',n'),h⟩
 by_cases c9:x<9
 ·obtain⟨f,ic1,q1,hf,hc1,h1⟩:=a4.aE K.below hR ic q hic 8 (by omega) (by omega);simp only[cq] at h1;have h3:=cm.aE K.mark st (jh hs.ok) box gid f;refine⟨false,_,true,ic1,q1,⟨rM hs.ok _ _ _,fun z=>uK (hs.use z) box gid f⟩,hc1,fun _=>rfl,fun n=> ?_⟩;obtain⟨v1',v2',n',h⟩:=yG c k ⟨i,st,w,v1,v2,ic,q,n⟩ box gid x f ic1 q1 _ _ d0 d1 (by omega) (by omega) h1 h3;exact⟨(v1',v2',n'),h⟩
 by_cases c10:x=9
 ·have h3:=cn.aE K.drop st (jh hs.ok) box gid;refine⟨false,_,true,ic,q,⟨nE hs.ok _ _,fun z=>uN (hs.use z) box gid⟩,hic,fun _=>rfl,fun n=> ?_⟩;obtain⟨v1',v2',n',h⟩:=yK c k ⟨i,st,w,v1,v2,ic,q,n⟩ box gid x _ _ d0 (by omega) h3;exact⟨(v1',v2',n'),h⟩
 by_cases c11:x=10
 ·obtain⟨nm,ic1,q1,hnm,hc1,h1⟩:=cG.aE K.pick hR ic q hic Cc (by decide) (by decide);have h3:=bN.aE K.name st (jh hs.ok) box nm (by have:=(n4 nm hnm).2;omega);refine⟨false,_,true,ic1,q1,⟨qy hs.ok _ _,fun z=>uJ (hs.use z) box (n4 nm hnm).1⟩,hc1,fun _=>rfl,fun n=> ?_⟩;obtain⟨v1',v2',n',h⟩:=yF c k ⟨i,st,w,v1,v2,ic,q,n⟩ box gid x ic1 _ q1 _ _ d0 (by omega) h1 h3;exact⟨(v1',v2',n'),h⟩
 obtain⟨z,ic1,q1,hc1,h1⟩:=dc.aE K.once hR ic q hic 3 (by omega) (by omega);simp only[cq] at h1;cases z
 ·refine⟨true,st,w,ic1,q1,hs.mono (by omega),hc1,fun h=>h.resolve_left d0,fun n=> ?_⟩;obtain⟨n',h⟩:=yE c k ⟨i,st,w,v1,v2,ic,q,n⟩ box gid x ic1 q1 d0 (by omega) h1;exact⟨(v1,v2,n'),h⟩
 ·have h3:=cy.aE K.Cz st (jh hs.ok) box;refine⟨false,_,true,ic1,q1,⟨oV hs.ok (hbox.resolve_left d0).1,fun z=>uM (hs.use z) ((hbox.resolve_left d0).2 z)⟩,hc1,fun _=>rfl,fun n=> ?_⟩;obtain⟨v1',v2',n',h⟩:=yI c k ⟨i,st,w,v1,v2,ic,q,n⟩ box gid x ic1 q1 _ _ d0 (by omega) h1 h3;exact⟨(v1',v2',n'),h⟩
structure A3 (c:pD) (p:Bool) (m:Nat) (s0:aP) (s:pd):Prop where
 i:s.i≤c.N
 use:kz p (m+s.i) s.s
 ic:s.ic≤c.R.length
 w:s0.boxes≠[]∨(s.i=0∧s.s=s0)∨s.w=true
theorem wu(K:CG M)(c:pD)(hR:Bytes c.R)(k:Nat)(p:Bool)(m:Nat)(s0:aP)(hb1:100≤c.base)(hb2:c.base+c.N≤1000)(s:pd)(hs:A3 c p m s0 s)(hi:s.i<c.N):
  ∃s',b9 (run M) k aM.l0 (kr c s [])=some (.normal,kr c s' [])∧A3 c p m s0 s'∧s'.i=s.i+1:=by
 have fin:∀(box:Int) (e:Bool) (st':aP) (w':Bool) (ic':Nat) (q':Int),kz p (m+s.i+1) st'→ic'≤c.R.length→(s0.boxes≠[]∨w'=true)→
   (∀n,∃y,b9 (run M) k aM.hd (kr c {s with n:=n} yL)=some (.normal,Bx c s.i st' w' ic' q' (B9 e box) y))→
   ∃s',b9 (run M) k aM.l0 (kr c s [])=some (.normal,kr c s' [])∧A3 c p m s0 s'∧s'.i=s.i+1:=by
  intro box e st' w' ic' q' hu hc hw hX;obtain⟨y,hy⟩:=Bw c k s st' w' ic' q' e box hi (by omega) hX;exact⟨⟨s.i+1,st',w',y.1,y.2.1,ic',q',y.2.2⟩,hy,⟨by simp only;omega,hu,hc,hw.imp_right .inr⟩,rfl⟩
 by_cases hbx:s.s.boxes=[]
 ·obtain⟨x,ic1,q1,hx,hc1,h1⟩:=a4.aE K.below hR s.ic s.q hs.ic 12 (by omega) (by omega);simp only[cq] at h1;obtain⟨e,st',w',ic',q',hu,hc',hw,hd⟩:=ql K c hR k p (m+s.i) s.s hs.use s.i ic1 q1 hc1 hb1 (by omega) s.w s.v1 s.v2 0 0 x (.inl rfl);obtain⟨Y,hY⟩:=Classical.skolem.1 hd;exact fin 0 e st' w' ic' q' hu hc' (.inr (hw (.inl rfl))) fun n=>by
   obtain⟨n1,h⟩:=AF c k {s with n:=n} x ic1 q1 hbx h1 _ hY;exact⟨_,h⟩
 have hne:s0.boxes≠[]∨s.w=true:=by
  rcases hs.w with h|⟨_,h⟩|h
  ·exact .inl h
  ·left;rw[←h];exact hbx
  ·exact .inr h
 have hl:0<s.s.boxes.length:=List.length_pos_iff.2 hbx;have G:=bW.1 hs.use.ok;obtain⟨j,ic0,q0,hj,hc0,h0⟩:=a4.aE K.below hR s.ic s.q hs.ic s.s.boxes.length hl (by have:=G.len;omega);have hbox:=hs.use.box (ax hj);by_cases hml:s.s.boxes[j].af=[]
 ·obtain⟨x,ic1,q1,hx,hc1,h1⟩:=a4.aE K.below hR ic0 q0 hc0 12 (by omega) (by omega);simp only[cq] at h1;obtain⟨e,st',w',ic',q',hu,hc',hw,hd⟩:=ql K c hR k p (m+s.i) s.s hs.use s.i ic1 q1 hc1 hb1 (by omega) s.w s.v1 s.v2 s.s.boxes[j].gid 0 x (.inr hbox);obtain⟨Y,hY⟩:=Classical.skolem.1 hd;exact fin _ e st' w' ic' q' hu hc' (hne.imp_right fun h=>hw (.inr h)) fun n=>by
   obtain⟨n1,h⟩:=AE c k {s with n:=n} x j ic0 ic1 q0 q1 hj hml h0 h1 _ hY;exact⟨_,h⟩
 ·have hl2:0<s.s.boxes[j].af.length:=List.length_pos_iff.2 hml;have GB:=(G.box _ (ax hj)).1;obtain⟨l,ic2,q2,hl,hc2,h2⟩:=a4.aE K.below hR ic0 q0 hc0 s.s.boxes[j].af.length hl2 (by have:=GB.len;omega);obtain⟨x,ic1,q1,hx,hc1,h1⟩:=a4.aE K.below hR ic2 q2 hc2 12 (by omega) (by omega);simp only[cq] at h1;obtain⟨e,st',w',ic',q',hu,hc',hw,hd⟩:=ql K c hR k p (m+s.i) s.s hs.use s.i ic1 q1 hc1 hb1 (by omega) s.w s.v1 s.v2 s.s.boxes[j].gid (s.s.boxes[j].af[l]).gid x (.inr hbox);obtain⟨Y,hY⟩:=Classical.skolem.1 hd;exact fin _ e st' w' ic' q' hu hc' (hne.imp_right fun h=>hw (.inr h)) fun n=>by
   obtain⟨n1,h⟩:=AD c k {s with n:=n} x j l ic0 ic1 ic2 q0 q1 q2 hj hl h0 h2 h1 _ hY;exact⟨_,h⟩
theorem yJ(K:CG M)(c:pD)(hR:Bytes c.R)(k:Nat)(p:Bool)(m:Nat)(s0:aP)(hb1:100≤c.base)(hb2:c.base+c.N≤1000)(s:pd)(hs:A3 c p m s0 s)(hk:c.N<k):
  ∃s',dP (b9 (run M) k aM.l0) k (kr c s [])=some (.exit 0,kr c s' [(16,.c (.bool false))])∧A3 c p m s0 s'∧s'.i=c.N:=by
 obtain⟨r,hr,s',rfl,hI⟩:=fc (f:=b9 (run M) k aM.l0) (fun s=>kr c s []) (A3 c p m s0) (fun s=>c.N-s.i) (fun r=>∃s',r=(.exit 0,kr c s' [(16,.c (.bool false))])∧A3 c p m s0 s'∧s'.i=c.N)
  (fun s hs=>by
   by_cases hi:s.i<c.N
   ·left;obtain⟨s',h1,h2,h3⟩:=wu K c hR k p m s0 hb1 hb2 s hs hi;exact⟨s',h1,h2,by omega⟩
   ·right;obtain⟨n',h⟩:=AG (M:=M) c k s hi;have:=hs.i;exact⟨_,h,by simp,_,rfl,⟨hs.i,hs.use,hs.ic,hs.w⟩,by simp only;omega⟩) k s hs (by omega)
 exact⟨s',hr,hI⟩
abbrev mY(w:Bool)(s:aP):List T:=[I s.eP,I s.time,.sl w 7 (s.boxes.map ah),.sl w 1 (au s.gone)]
theorem aM.aE(h:aM.k M){R:List (List T)}(hR:Bytes R)(i:Nat)(q:Int)(hi:i≤R.length)(p:Bool)(m:Nat)(s:aP)(hs:kz p m s)(N base:Nat)(h1:100≤base)(h2:base+N≤1000):
  ∃(s':aP) (w:Bool) (i':Nat) (q':Int),kz p (m+N) s'∧(s.boxes=[]→0<N→w=true)∧i'≤R.length∧
   run M 244 [.c (.ptr 0 0 0 0),.a (ao s),.c (I N),.c (I base)] [ei R i q]=some (.a (mY w s'),[ei R i' q']):=by
 obtain⟨h0,kb,kt,ko,kp,km,kpu,kma,kdm,kn,kdb⟩:=h;obtain⟨⟨i',s',w,v1,v2,ic,q',n⟩,hr,hI,hi'⟩:=yJ ⟨kb,kt,ko,kp,km,kpu,kma,kdm,kn,kdb⟩ ⟨R,2000000,2000016,N,base⟩ hR (N+1) p m s h1 h2 ⟨0,s,false,0,0,i,q,2000048⟩ ⟨Nat.zero_le _,hs,hi,.inr (.inl ⟨rfl,rfl⟩)⟩ (by simp);obtain⟨_,hu,hc,hw⟩:=hI;simp only at hi' hu hc hw;subst hi';refine⟨s',w,ic,q',hu,fun e hN=> ?_,hc,aq (b:=aM.m) h0 ⟨i'+1, ?_⟩⟩
 ·rcases hw with h|⟨h,_⟩|h
  ·exact(h e).elim
  ·omega
  ·exact h
 have e0:((0:Nat):Int)=0:=rfl;have e7:(s'.boxes.map ah).length=s'.boxes.length:=by simp
 have e8:=bK s'.gone;have m1:(s'.boxes.map ah).take s'.boxes.length=s'.boxes.map ah:=aa (by omega);have m2:(au s'.gone).take s'.gone.length=au s'.gone:=aa (by omega);simp only[kr,tS,tT,tU,tR,e0] at hr;simp only[ao,mY,boxes,ints] at hr ⊢;generalize s'.boxes.map ah=rb' at*;generalize au s'.gone=rg' at*;generalize s.boxes.map ah=rb at*;generalize au s.gone=rg at*;cases w
 ·simp only[az,if_false] at hr;simp (maxSteps:=9^9) [bB,aM.m,aM.b,ab,setAt,hr]
 ·simp only[az,if_false,if_true] at hr;simp (maxSteps:=9^9) [bB,aM.m,aM.b,ab,setAt,hr,e7,e8,m1,m2]
theorem dr.aE(h:dr.k M)(w:Int):run M 113 [.c (I w)] []=some (.a [I w,I 0,.sl true 7 [],.sl true 1 []],[]):=by
 refine aq (b:=dr.m) h ⟨0, ?_⟩;simp (maxSteps:=9^9) [bB,dr.m,dr.b,ab,setAt]
theorem dq.aE(h:dq.k M){R:List (List T)}(hR:Bytes R)(i:Nat)(q:Int)(hi:i≤R.length):
  ∃(s:aP) (i':Nat) (q':Int),Used 13 s∧i'≤R.length∧run M 188 [.c (.ptr 0 0 0 0)] [ei R i q]=some (.a (bm s),[ei R i' q']):=by
 obtain⟨h0,kn,kb,ku⟩:=h;obtain⟨x,i1,q1,hx,hc1,h1⟩:=a4.aE kb hR i q hi 12 (by omega) (by omega);obtain⟨y,i2,q2,hy,hc2,h2⟩:=a4.aE kb hR i1 q1 hc1 2 (by omega) (by omega);simp only[cq] at h1 h2;have h3:=dr.aE kn ((1+y:Nat):Int);obtain⟨s,w,i3,q3,hu,hw,hc3,h4⟩:=aM.aE ku hR i2 q2 hc2 true 0 ⟨((1+y:Nat):Int),0,[],[]⟩ (uO (by omega) (by omega) true) (2+x) 100 (by omega) (by omega);have hw:=hw rfl (by omega);subst hw;refine⟨s,i3,q3,(hu.use rfl).mono (by omega),hc3,aq (b:=dq.m) h0 ⟨0, ?_⟩⟩;have e1:IntKind.i64.wrap (2+(x:Int))=((2+x:Nat):Int):=wrap_i64 (by omega) (by omega);have e2:IntKind.i64.wrap (1+(y:Int))=((1+y:Nat):Int):=wrap_i64 (by omega) (by omega);simp only[ao,mY,bm,boxes,ints,bI,fN,cq] at h4 ⊢;generalize ((1+y:Nat):Int)=y1 at*;generalize ((2+x:Nat):Int)=x1 at*;have e7:(s.boxes.map ah).length=s.boxes.length:=by simp
 have e8:=bK s.gone;generalize s.boxes.map ah=rb' at*;generalize au s.gone=rg' at*;simp (maxSteps:=9^9) [bB,dq.m,dq.b,ab,setAt,h1,h2,h3,h4,e1,e2,e7,e8,aa]
end Mx
namespace Mx
open Go
def gb(l:List cX)(g:Int):List Int:=match qa l g with|some x=>x.gone|none=>[]
def raw(a b:List cX)(G:List Int):List cX:=((mh (uh a) (uh b)).filter fun g=> !decide (g∈G)).map (Ap a b)
theorem nk:∀(l acc:List cX) (i:Nat) (h:i<l.length),∃nm,(l.foldl iX acc)[acc.length+i]? =some {l[i] with name:=nm}
 |x::l,acc,i,h=>by
  rw[dW];have hs:iX acc x=acc++[qz acc x]:=rfl;cases i with
  |zero=>
   have hp:∀(l acc:List cX) (k:Nat),k<acc.length→(l.foldl iX acc)[k]? =acc[k]? :=by
    intro l
    induction l with
    |nil=>intro acc k _;rfl
    |cons y l ih=>
     intro acc k hk;rw[dW,ih (iX acc y) k (by rw[lE];simp;omega),lE,List.getElem?_append_left hk]
   rw[hp l _ _ (by rw[hs];simp),hs];refine⟨(qz acc x).name, ?_⟩;simp only[Nat.add_zero,List.getElem?_append_right (Nat.le_refl _),Nat.sub_self,List.getElem?_cons_zero,List.getElem_cons_zero];unfold qz;split<;>rfl
  |succ i=>
   have:=nk l (iX acc x) i (by simpa using h);rw[hs] at this;simpa [hs,Nat.add_assoc,Nat.add_comm 1] using this
theorem AR(l:List cX)(i:Nat)(h:i<l.length):∃nm,(BK l)[i]'(by rw[lX];exact h)={l[i] with name:=nm}:=by
 obtain⟨nm,e⟩:=nk l [] i h;refine⟨nm, ?_⟩;simp only[ai,Nat.zero_add] at e;have e2:(BK l)[i]? =some {l[i] with name:=nm}:=e
 rw[cg (by rw[lX];exact h)] at e2;exact Option.some.inj e2
theorem pM{L:List cX}{i:Nat}{m:Int}:m∈oq L i↔∃k,∃h:k<L.length,k<i∧m∈jc L[k].af:=by
 unfold oq;rw[dX];constructor
 ·rintro ⟨b,hb,hm⟩;obtain⟨k,hk,rfl⟩:=cr hb;simp only[dJ] at hk;rw[List.getElem_take] at hm;exact⟨k,by omega,by omega,hm⟩
 ·rintro ⟨k,hk,hki,hm⟩;refine⟨L[k], ?_,hm⟩;have:k<(L.take i).length:=by simp;omega
  have e:(L.take i)[k]=L[k]:=by rw[List.getElem_take]
  rw[←e];exact ax this
theorem xG{L:List cX}{i:Nat}(h:i<L.length){m:Int}:m∈jc ((zE L)[i]'(by simpa [zE] using h)).af↔m∈jc L[i].af∧¬m∈oq L i:=by
 simp only[zE,List.getElem_mapIdx,oZ,jc,kV,fB,Bool.not_eq_true',decide_eq_false_iff_not];constructor
 ·rintro ⟨y,⟨h1,h2⟩,rfl⟩;exact⟨⟨y,h1,rfl⟩,h2⟩
 ·rintro ⟨⟨y,h1,rfl⟩,h2⟩;exact⟨y,⟨h1,h2⟩,rfl⟩
structure CM (a b:List cX) (G:List Int) (L:List cX):Prop where
 len:L.length=(raw a b G).length
 at_:∀i (h:i<L.length),∃hr:i<(raw a b G).length,L[i].gid=(raw a b G)[i].gid∧L[i].gone=(raw a b G)[i].gone∧
  ∀m,m∈jc L[i].af↔m∈jc (raw a b G)[i].af∧¬m∈oq (raw a b G) i
 nd:(∀x∈raw a b G,(jc x.af).Nodup)→∀i (h:i<L.length),(jc L[i].af).Nodup
theorem CZ(a b:List cX)(G:List Int):CM a b G (zE (gT a b G)):=by
 have hl:(zE (gT a b G)).length=(raw a b G).length:=by simp only[zE,List.length_mapIdx];exact lX _
 have hS:∀i (h:i<(raw a b G).length),∃nm,(gT a b G)[i]'(by rw[show (gT a b G).length=_ from lX _];exact h)={(raw a b G)[i] with name:=nm}:=fun i h=>AR (raw a b G) i h
 have hlS:(gT a b G).length=(raw a b G).length:=lX _;have hseen:∀i m,m∈oq (gT a b G) i↔m∈oq (raw a b G) i:=by
  intro i m;rw[pM,pM];constructor
  ·rintro ⟨k,h1,h2,h3⟩;obtain⟨nm,e⟩:=hS k (by omega);rw[e] at h3;exact⟨k,by omega,h2,h3⟩
  ·rintro ⟨k,h1,h2,h3⟩;obtain⟨nm,e⟩:=hS k h1;exact⟨k,by omega,h2,by rw[e];exact h3⟩
 refine⟨hl,fun i h=> ?_,fun hn i h=> ?_⟩
 ·have hr:i<(raw a b G).length:=by omega
  obtain⟨nm,e⟩:=hS i hr;refine⟨hr, ?_, ?_,fun m=> ?_⟩
  ·simp only[zE,List.getElem_mapIdx,oZ,e]
  ·simp only[zE,List.getElem_mapIdx,oZ,e]
  ·rw[xG (by omega),hseen,e]
 ·have hr:i<(raw a b G).length:=by omega
  obtain⟨nm,e⟩:=hS i hr;have:=hn _ (ax hr);simp only[zE,List.getElem_mapIdx,oZ,e,jc] at this ⊢;exact this.sublist (List.Sublist.map _ List.filter_sublist)
end Mx
namespace Mx
open Go
variable {M:Nat→Option Body}
theorem dL.aE(h:dL.k M)(b:cX)(g:Int):run M 199 [.a (ah b),.c (.vp [I g] 0)] []=some (.c (.bool (decide (b.gid=g))),[]):=by
 refine aq (b:=dL.m) h ⟨0, ?_⟩;simp (maxSteps:=9^9) [bB,dL.m,dL.b,ab,ah]
theorem ec.aE(h:ec.k M)(s:aP)(g:Int)(hl:s.boxes.length≤1048576):run M 95 [.a (ao s),.c (I g)] []=some (.c (I (di (gH s.boxes g))),[]):=by
 have h1:=aF.gen h.2.2 (fun b=>dL.aE h.2.1 b g) s.boxes hl;refine aq (b:=ec.m) h.1 ⟨0, ?_⟩;unfold gH;simp only[ao,boxes,ints] at h1 ⊢;generalize s.boxes.map ah=r at*;generalize au s.gone=rg at*;simp (maxSteps:=9^9) [bB,ec.m,ec.b,ab,h1]
theorem wo(k:IntKind)(x:Int)(hk:k= .i64): -9223372036854775808≤k.wrap x∧k.wrap x≤9223372036854775807:=by
 subst hk;unfold IntKind.wrap;simp[IntKind.bits,IntKind.signed];split<;>omega
def B4(z:Int):Prop:= -9223372036854775808≤z∧z≤9223372036854775807
end Mx
namespace Mx
open Go
def uc(kt ko:List Nat)(n:Nat):Option (List (Nat×V)×List (Nat×Ob))→Option (Out×St)
 |none=>none
 |some r=>some (.normal,{t:=keep kt r.1,o:=keep ko r.2,n:=n})
theorem tf(kt ko:List Nat)(n:Nat)(t:List (Nat×V))(o:List (Nat×Ob)):uc kt ko n (some (t,o))=some (.normal,{t:=keep kt t,o:=keep ko o,n:=n}):=rfl
theorem tg(kt ko:List Nat)(n:Nat):uc kt ko n none=none:=rfl
theorem zB(cf:bH)(k:Nat)(s:St)(ops:List gN)(kt ko:List Nat):b9 cf k (.ay ops kt ko) s=uc kt ko (s.n+16*ops.length) (steps cf s.n 0 ops s.t s.o):=by
 simp only[b9];cases steps cf s.n 0 ops s.t s.o<;>rfl
theorem xw(cf:bH)(k:Nat)(s:St)(ops:List gN)(anc:List (List Nat))(kt ko:List Nat):b9 cf k (.eD ops anc kt ko) s=uc kt ko (s.n+16*ops.length) (eC cf s.n 0 ops anc s.t s.o []):=by
 simp only[b9];cases eC cf s.n 0 ops anc s.t s.o []<;>rfl
theorem xu(cf:bH)(k:Nat)(s:St):b9 cf k .skip s=some (.normal,s):=rfl
theorem zy(cf:bH)(k:Nat)(s:St)(a b:C):b9 cf k (.seq a b) s=match b9 cf k a s with|some (.normal,s')=>b9 cf k b s'|r=>r:=rfl
theorem xA(cf:bH)(k:Nat)(s:St)(c:Nat)(a b:C):b9 cf k (.cond (.t c) a b) s=match jl s.t (.t c) with|some true=>b9 cf k a s|some false=>b9 cf k b s|none=>none:=rfl
theorem vo(cf:bH)(k:Nat)(s:St)(id:Nat)(a:C):b9 cf k (.block id a) s=match b9 cf k a s with|some (.exit id',s')=>some (if id'=id then(.normal,s') else(.exit id',s'))|r=>r:=rfl
theorem xy(cf:bH)(k:Nat)(s:St)(a:C):b9 cf k (.loop a) s=dP (b9 cf k a) k s:=rfl
theorem xz(cf:bH)(k:Nat)(s:St)(id:Nat):b9 cf k (.exit id) s=some (.exit id,s):=rfl
theorem zA(cf:bH)(k:Nat)(s:St):b9 cf k .ret s=some (.ret,s):=rfl
theorem xv(cf:bH)(k:Nat)(s:St)(ids:List Nat)(a:C):b9 cf k (.shut ids a) s=b9 cf k a {s with o:=mN ids s.o}:=rfl
theorem AU(n i:Nat):(lr n).contains i=decide (i<n):=by
 simp only[lr,List.contains_eq_mem,List.mem_range]
theorem zg(n i:Nat)(l:List Nat):(lr n++l).contains i=(decide (i<n)||l.contains i):=by
 simp only[lr,List.contains_eq_mem,eY,List.mem_range,Bool.decide_or]
def BQ:Option Ob→List Nat
 |some b=>if b.bx then b.rows.flatMap fun r=>r.flatMap jq else []
 |none=>[]
def vm(o:List (Nat×Ob)):List Nat→List Nat
 |[]=>[]
 |id::r=>BQ (get o id)++vm o r
def rZ(o:List (Nat×Ob)):List T→List Nat
 |[]=>[]
 |t::ts=>(jq t++vm o (jq t))++rZ o ts
def zn(o:List (Nat×Ob)):Option V→List Nat
 |some (.c t)=>jq t++vm o (jq t)
 |some (.a ts)=>rZ o ts
 |_=>[]
def n9(t:List (Nat×V))(o:List (Nat×Ob)):List Nat→List Nat
 |[]=>[]
 |x::xs=>zn o (get t x)++n9 t o xs
theorem qK(o:List (Nat×Ob)):∀l,l.flatMap (iz o)=vm o l
 |[]=>rfl
 |x::l=>by
  rw[ct,qK o l,vm];congr 1
theorem rY(o:List (Nat×Ob)):∀ts:List T,(ts.flatMap fun t=>jq t++(jq t).flatMap (iz o))=rZ o ts
 |[]=>rfl
 |t::ts=>by rw[ct,rY o ts,rZ,qK]
theorem pF(t:List (Nat×V))(o:List (Nat×Ob)):∀l:List Nat,(l.flatMap fun x=>match get t x with|some v=>ia o v|none=>[])=n9 t o l
 |[]=>rfl
 |x::l=>by
  rw[ct,pF t o l,n9];congr 1;cases h:get t x with
  |none=>rfl
  |some v=>
   cases v with
   |c t=>simp only[ia,zn,qK]
   |a ts=>simp only[ia,zn,rY]
   |_=>rfl
theorem wz(t:List (Nat×V))(o:List (Nat×Ob))(m:MO):eU t o m=n9 t o m.tm:=pF t o _
attribute [simp] BQ vm rZ zn n9
def wB(t:List (Nat×V))(o:List (Nat×Ob))(d:Option Nat):yt→Option (List (Nat×V)×List (Nat×Ob))
 |none=>none
 |some r=>some (h_ t d r.1,r.2++o)
theorem sL(t:List (Nat×V))(o:List (Nat×Ob))(d:Option Nat)(v:V)(u:List (Nat×Ob)):wB t o d (some (v,u))=some (h_ t d v,u++o):=rfl
theorem sM(t:List (Nat×V))(o:List (Nat×Ob))(d:Option Nat):wB t o d none=none:=rfl
theorem step_eq(cf:bH)(n i:Nat)(m:gN)(t:List (Nat×V))(o:List (Nat×Ob)):step cf n i m t o=match wanted t m.guard with
  |some true=>wB t o m.dst (act cf (n+16*i) (m.dst.getD 0) t o m.op)
  |some false=>some (h_ t m.dst .undef,o)
  |none=>none:=by
 unfold step;cases wanted t m.guard with
 |none=>rfl
 |some b=>cases b with
  |false=>rfl
  |true=>simp only[];cases act cf (n+16*i) (m.dst.getD 0) t o m.op<;>rfl
def wC(t:List (Nat×V))(d:Option Nat):yt→Option (List (Nat×V))
 |none=>none
 |some r=>some (h_ t d r.1)
theorem sN(t:List (Nat×V))(d:Option Nat)(r:V×List (Nat×Ob)):wC t d (some r)=some (h_ t d r.1):=rfl
theorem sO(t:List (Nat×V))(d:Option Nat):wC t d none=none:=rfl
theorem wD(cf:bH)(n i:Nat)(m:gN)(t:List (Nat×V))(o:List (Nat×Ob)):fF cf n i m t o=match wanted t m.guard with
  |some true=>wC t m.dst (gL cf (n+16*i) (m.dst.getD 0) t o m.op)
  |some false=>some (h_ t m.dst .undef)
  |none=>none:=by
 unfold fF;cases wanted t m.guard with
 |none=>rfl
 |some b=>cases b with
  |false=>rfl
  |true=>simp only[];cases gL cf (n+16*i) (m.dst.getD 0) t o m.op<;>rfl
def jk{α:Type}:Nat→List α→List (Nat×α)
 |_,[]=>[]
 |i,x::xs=>(i,x)::jk (i+1) xs
theorem qY{α:Type}:∀(l:List α) (a n:Nat),l.length≤n→(List.range' a n).zip l=jk a l
 |[],a,n,_=>by simp[jk]
 |x::xs,a,0,h=>by simp at h
 |x::xs,a,n+1,h=>by
  simp only[ae] at h;rw[List.range'_succ,List.zip_cons_cons,jk,qY xs (a+1) n (by omega)]
theorem uG{α:Type}(n:Nat)(l:List α)(h:l.length≤n):(List.range n).zip l=jk 0 l:=by
 rw[List.range_eq_range',qY l 0 n h]
attribute [simp] jk uG
def Bv:Option Ob→Nat
 |none=>0
 |some b=>b.bA
def rR(o:List (Nat×Ob)):List (Nat×Nat×Ob)→List (Nat×Nat×Nat)
 |[]=>[]
 |l::r=>(l.1,l.2.1,Bv (get o l.2.1))::rR o r
theorem rQ(o:List (Nat×Ob)):∀ls:List (Nat×Nat×Ob),(ls.map fun l=>(l.1,l.2.1,(get o l.2.1).elim 0 (·.bA)))=rR o ls
 |[]=>rfl
 |l::r=>by
  rw[aL,rQ o r,rR];congr 2;cases get o l.2.1<;>rfl
theorem vA(cf:bH)(n:Nat)(o:List (Nat×Ob))(f:Nat)(vals:List V)(lend:List Nat)(thaw:List (Nat×Nat)):dF cf n o f vals lend thaw=
 match args o lend 0 vals with
 |none=>none
 |some (as,ls,b)=>
  if vals.length≤1000∧(ls.map (·.2.1)).all (fun id=> !b.contains id)∧(ls.map (·.2.1)).Nodup then
   match cf f as (ls.map fun l=>(l.1,l.2.2)) with
   |none=>none
   |some (res,after)=>
    match fy n o after ls,back n (rR o ls) thaw res with
    |some db,some (v,ups')=>if b.isEmpty∨(res.flat∧db.all fun u=>u.2.rows.all (·.all T.scalar)) then some (v,db++ups') else none
    |_,_=>none
  else none:=by
 unfold dF;cases args o lend 0 vals with
 |none=>rfl
 |some r=>obtain⟨as,ls,b⟩:=r;simp only[rQ];rfl
attribute [simp] Bv rR
attribute [simp] tf tg zB xw xu zy xA vo xy xz zA xv AU zg wz sL sM step_eq sN sO wD vA
end Mx
namespace Mx
open Go
attribute [-simp] b9 step fF eU ia iz dF
variable {M:Nat→Option Body}
theorem bj(w l:List UInt8):eN .eql (bs w) ⟨l.toArray⟩=some (.bool (decide (w=l))):=lT w l
theorem add_lit(w l:List UInt8)(h:w.length+l.length≤4611686018427387904):eN .add (bs w) ⟨l.toArray⟩=some (S (w++l)):=ak w l h
theorem iu(w l:List UInt8)(h:w.length+l.length≤4611686018427387904):eN .add ⟨w.toArray⟩ (bs l)=some (S (w++l)):=ak w l h
def Ch(b:cX)(i:Nat)(x:Nat×Nat×Nat):St:=
 {t:=[(1,.c (.ptr 1 x.1 0 0)),(3,.c (.row 5 x.2.1 0 i)),(4,.c (I i))],o:=[(1,⟨x.1,7,true,true,[ah b]⟩),(5,⟨x.2.1,1,true,false,au ((aI b).take i)⟩)],n:=x.2.2}
def CD(b:cX)(x:Nat×Nat×Nat):St:=
 {t:=[(1,.c (.ptr 1 x.1 0 0)),(3,.c (.row 5 x.2.1 0 b.af.length)),(4,.c (I b.af.length)),(10,.c (.bool false))],o:=[(1,⟨x.1,7,true,true,[ah b]⟩),(5,⟨x.2.1,1,true,false,au (aI b)⟩)],n:=x.2.2}
theorem pZ{b:cX}{i:Nat}(hi:i<b.af.length):au ((aI b).take (i+1))=au ((aI b).take i)++[[I b.af[i].gid]]:=by
 have h:i<(aI b).length:=by simpa [aI] using hi
 rw[List.take_succ_eq_append_getElem h,jo];simp[aI]
theorem cF.aE(h:cF.k M)(b:cX)(hb:b.af.length≤1048576):run M 198 [.a (ah b)] []=some (.c (.sl true 1 (au (aI b))),[]):=by
 have er:(b.af.map aD).length=b.af.length:=by simp
 have gl:(aI b).length=b.af.length:=by simp[aI]
 obtain⟨g,hr⟩:=e_ (f:=b9 (run M) (b.af.length+1) cF.l0) b.af.length (Ch b) 0 (CD b)
  (fun i hi x=>by
   obtain⟨v1,v5,n⟩:=x;have a1:∀hh,(b.af.map aD)[i]'hh=aD b.af[i]:=by intro hh;simp
   have e5:=dS (i:=i) (by omega);have hi2:(i:Int)<b.af.length:=by omega
   have e6:i+1≤4294967296:=by omega
   have ef:(au ((aI b).take i)).length=i:=by simp;omega
   have et:(au ((aI b).take i)).take i=au ((aI b).take i):=aa (by omega);simp only[Ch,bP,pZ hi];simp only[ah,af,ints,aD] at a1 er ⊢;generalize (b.af.map fun m:fi=>[I m.gid,I m.uid,iS m.flags,S m.text])=rm at*;generalize au ((aI b).take i)=rg at*;simp (maxSteps:=9^9) [cF.l0,ar,aa,setAt,ak,a1,er,hi,hi2,e5,e6,ef,et])
  (fun x=>by
   obtain⟨v1,v5,n⟩:=x;have ef:(aI b).take b.af.length=aI b:=aa (by omega);simp only[Ch,CD,bP,ef];simp only[ah,af,ints,aD] at er ⊢;generalize (b.af.map fun m:fi=>[I m.gid,I m.uid,iS m.flags,S m.text])=rm at*;generalize au (aI b)=rg at*;simp (maxSteps:=9^9) [cF.l0,ar,aa,setAt,ak,er])
 refine aq (b:=cF.m) h ⟨b.af.length+1, ?_⟩;have e0:((0:Nat):Int)=0:=rfl;have ef:(au (aI b)).length=b.af.length:=by simp[aI]
 have et:(au (aI b)).take b.af.length=au (aI b):=aa (by omega);simp only[Ch,CD,Prod.forall,e0,List.take_zero,fN] at hr;simp only[ah,af,ints] at hr ⊢;generalize au (aI b)=rg at*;generalize b.af.map aD=rm at*;simp (maxSteps:=9^9) [bB,cF.m,cF.b,ar,aa,setAt,ak,hr,ef,et]
theorem cU.aE(h:cU.k M)(n:Int)(hn:n≤9223372036854775807):∃t:List UInt8,t.length≤21∧run M 320 [.c (I n)] []=some (.c (S t),[]):=by
 obtain⟨h0,kd⟩:=h;by_cases c:n<0
 ·exact⟨[48],by simp,aq (b:=cU.m) h0 ⟨0,by simp (maxSteps:=9^9) [bB,cU.m,cU.b,ar,aa,setAt,ak,c]⟩⟩
 ·have h1:=a0.aE kd n (by omega) hn;exact⟨dec n,fX (by omega) hn,aq (b:=cU.m) h0 ⟨0,by simp (maxSteps:=9^9) [bB,cU.m,cU.b,ar,aa,setAt,ak,c,h1]⟩⟩
structure C5 where
 i:Nat
 z:Int
 e:List (Nat×V)
 n:Nat
def zr(l:List jB)(s:C5):St:={t:=(0,.c (iS l))::(3,.c (I s.z))::(4,.c (I s.i))::s.e,o:=[],n:=s.n}
theorem bL.aE(h:bL.k M)(l:List jB)(hl:l.length≤1048576):∃z:Int,B4 z∧run M 321 [.c (iS l)] []=some (.c (I z),[]):=by
 have er:(l.map cA).length=l.length:=by simp
 obtain⟨r,hr,⟨⟨i,z,e,n⟩,rfl,hz⟩⟩:=fc (f:=b9 (run M) 5 bL.l0) (zr l) (fun s=>s.i≤3∧B4 s.z) (fun s=>3-s.i) (fun r=>∃s,r=(.exit 0,zr l s)∧B4 s.z)
  (fun s hs=>by
   obtain⟨i,z,e,n⟩:=s;obtain⟨hi,hz⟩:=hs;simp only at hi hz;by_cases c:i<l.length∧i<3
   ·obtain⟨c,c3⟩:=c;left;have c1:(i:Int)<l.length:=by omega
    have c3':(i:Int)<3:=by omega
    have e5:=dS (i:=i) (by omega);have a1:∀hh,(l.map cA)[i]'hh=cA l[i]:=by intro hh;simp
    have n1:¬(i:Int)<0:=by omega
    have e4:IntKind.u64.wrap (i:Int)=i:=by unfold IntKind.wrap;simp[IntKind.bits,IntKind.signed];omega
    have hh:∃z',B4 z'∧∃n',b9 (run M) 5 bL.l0 (zr l ⟨i,z,e,n⟩)=some (.normal,zr l ⟨i+1,z',[],n'⟩):=by
     simp only[zr,iS];simp only[cA] at a1 er ⊢;generalize (l.map fun r:jB=>[I r.val,I r.time,I r.eP])=rl at*;by_cases c4:l[i].val.tmod 2=0
     ·refine⟨z,hz, ?_⟩;generalize l[i].val=vv at*;simp (maxSteps:=9^9) [bL.l0,ar,aa,setAt,ak,c,c1,c3',e5,er,a1,n1,c4]
     ·refine⟨IntKind.i64.wrap (z+IntKind.i64.wrap ((2^(min i 64):Nat):Int)),wo _ _ rfl, ?_⟩;have e6:IntKind.i64.bits=64:=rfl;generalize hq:((2^(min i 64):Nat):Int)=p;have hq2:(2:Int)^(min i 64)=p:=by rw[←hq];norm_cast
      generalize l[i].val=vv at*;simp (maxSteps:=9^9) [bL.l0,ar,aa,setAt,ak,c,c1,c3',e4,e5,e6,er,a1,n1,c4,hq,hq2]
    obtain⟨z',hz',n',hh⟩:=hh;exact⟨_,hh,⟨by simp only;omega,hz'⟩,by simp only;omega⟩
   ·right;have hh:∃n',b9 (run M) 5 bL.l0 (zr l ⟨i,z,e,n⟩)=some (.exit 0,zr l ⟨i,z,[(12,.c (.bool false))],n'⟩):=by
     simp only[zr,iS];generalize l.map cA=rl at*;by_cases c1:i<l.length
     ·have c2:(i:Int)<l.length:=by omega
      have c3:¬(i:Int)<3:=fun z=>c ⟨c1,by omega⟩
      simp (maxSteps:=9^9) [bL.l0,ar,aa,setAt,ak,c2,c3,er]
     ·have c2:¬(i:Int)<l.length:=by omega
      simp (maxSteps:=9^9) [bL.l0,ar,aa,setAt,ak,c2,er]
    obtain⟨n',hh⟩:=hh;exact⟨_,hh,by simp,_,rfl,hz⟩) 5 ⟨0,0,[],2000048⟩ ⟨by simp,by simp[B4]⟩ (by simp)
 refine⟨z,hz,aq (b:=bL.m) h ⟨5, ?_⟩⟩;have e0:((0:Nat):Int)=0:=rfl;simp only[zr,iS,e0] at hr ⊢;generalize l.map cA=rl at*;simp (maxSteps:=9^9) [bB,bL.m,bL.b,ar,aa,setAt,ak,hr]
theorem ve{b:cX}{g:Int}(h:g∈aI b):∃k:Nat,di (dY b.af g)=(k:Int):=by
 unfold aI at h;rw[kV] at h;have:=me.2 h;cases q:dY b.af g with
 |none=>rw[q] at this;cases this
 |some k=>exact⟨k,rfl⟩
theorem td{b:cX}{g:Int}(h:¬g∈aI b):di (dY b.af g)= -1:=by
 cases q:dY b.af g with
 |none=>rfl
 |some k=>
  have:=me.1 (show (dY b.af g).isSome=true by rw[q];rfl);exact(h (by unfold aI;rw[kV];exact this)).elim
structure Br where
 v2:Nat
 v4:Nat
 v6:Nat
 v8:Nat
 vr:Nat
 n:Nat
def lA:List T:=[S [],S [],.bool false,.bool false,I 0,.bp 1]
def A9(x:a5)(b:cX)(y:Br):List (Nat×Ob):=[(2,⟨y.v2,6,true,true,[cN x]⟩),(4,⟨y.v4,6,true,true,[lA]⟩),(6,⟨y.v6,6,true,true,[[S x.AW,S x.out,.bool x.on,.bool x.over,I x.box,.row 11305 y.vr 0 x.view.length]]⟩),
 (8,⟨y.v8,7,true,true,[ah b]⟩),(11305,⟨y.vr,1,true,false,au x.view⟩)]
def BC(x:a5)(b:cX)(i:Nat)(y:Br):List (Nat×V):=[(2,.c (.ptr 2 y.v2 0 0)),(4,.c (.ptr 4 y.v4 0 0)),(6,.c (.ptr 6 y.v6 0 0)),(8,.c (.ptr 8 y.v8 0 0)),(9,.c (S (gK (aI b) (x.view.take i)).2)),(10,.c (I (gK (aI b) (x.view.take i)).1)),(11,.c (I i))]
def Am(x:a5)(b:cX)(i:Nat)(y:Br):St:={t:=BC x b i y,o:=A9 x b y,n:=y.n}
def BD(x:a5)(b:cX)(y:Br):St:={t:=BC x b x.view.length y++[(37,.c (.bool false))],o:=A9 x b y,n:=y.n}
theorem bO.loop(km:aX.k M)(kd:a0.k M)(k:Nat)(x:a5)(hx:x.view.length≤1000)(b:cX)(hb:b.af.length≤1000):
  ∃g:Br→Br,∀y,dP (b9 (run M) k bO.l0) (x.view.length+1) (Am x b 0 y)=some (.exit 0,BD x b (g y)):=by
 have er:(au x.view).length=x.view.length:=by simp
 refine e_ (f:=b9 (run M) k bO.l0) x.view.length (Am x b) 0 (BD x b) (fun i hi y=> ?_) (fun y=> ?_)
 ·obtain⟨v2,v4,v6,v8,vr,n⟩:=y;have h1:=aX.aE km b x.view[i] (by omega);have a1:∀hh,(au x.view)[i]'hh=[I x.view[i]]:=by intro hh;simp
  have e5:=dS (i:=i) (by omega);have hi2:(i:Int)<x.view.length:=by omega
  have hc:=nW (aI b) (x.view.take i);have hl:=kP (aI b) (x.view.take i) (by rw[dJ];omega);rw[dJ] at hc hl;have hh:∃n',b9 (run M) k bO.l0 (Am x b i ⟨v2,v4,v6,v8,vr,n⟩)=some (.normal,Am x b (i+1) ⟨v2,v4,v6,v8,vr,n'⟩):=by
   simp only[Am,BC,p_ hi];generalize gK (aI b) (x.view.take i)=c at*;obtain⟨m,t⟩:=c;simp only at hc hl ⊢;have e6:=dS (i:=m) (by omega);have h2:=a0.aE kd ((m:Int)+1) (by omega) (by omega);have hd:=fX (n:=(m:Int)+1) (by omega) (by omega);have ez:((m+1:Nat):Int)=(m:Int)+1:=by omega
   by_cases c1:x.view[i]∈aI b
   ·obtain⟨z,hz⟩:=ve c1;rw[hz] at h1;simp only[my,c1,if_true,ez];simp only[A9,ah,cN,af,ints] at h1 a1 er ⊢;generalize x.view[i]=g at*;generalize au x.view=rv at*;generalize b.af.map aD=rm at*;simp (maxSteps:=9^9) [bO.l0,ar,aa,setAt,ak,h1,a1,er,hi,hi2,e5,e6]
   ·have hz:=td c1;rw[hz] at h1;simp only[my,c1,if_false,kF,zx,ez];simp only[A9,ah,cN,af,ints] at h1 a1 er ⊢;generalize x.view[i]=g at*;generalize au x.view=rv at*;generalize b.af.map aD=rm at*;generalize dec ((m:Int)+1)=d at*;simp (maxSteps:=9^9) (disch:=(first|omega|(simp;done)|(simp;omega))) [bO.l0,ar,aa,setAt,ak,h1,h2,a1,er,hi,hi2,e5,e6,add_lit,iu]
  obtain⟨n',hh⟩:=hh;exact⟨_,hh⟩
 ·obtain⟨v2,v4,v6,v8,vr,n⟩:=y;have hh:∃n',b9 (run M) k bO.l0 (Am x b x.view.length ⟨v2,v4,v6,v8,vr,n⟩)=some (.exit 0,BD x b ⟨v2,v4,v6,v8,vr,n'⟩):=by
   simp only[Am,BD,BC];generalize gK (aI b) (x.view.take x.view.length)=c at*;obtain⟨m,t⟩:=c;simp only[A9,ah,cN,af,ints] at er ⊢;generalize au x.view=rv at*;generalize b.af.map aD=rm at*;simp (maxSteps:=9^9) [bO.l0,ar,aa,setAt,ak,er]
  obtain⟨n',hh⟩:=hh;exact⟨_,hh⟩
theorem bO.aE(h:bO.k M)(x:a5)(hx:x.view.length≤1000)(s:aP)(hs:s.boxes.length≤1000)(hb:∀b∈s.boxes,b.af.length≤1000):
  run M 94 [.a (cN x),.a (ao s)] []=some (.hC [.a (dw (told mc x s).1),.c (S (told mc x s).2)],[]):=by
 obtain⟨h0,km,kc,kb,kd,kg⟩:=h;have h1:=bn.aE kc x (by omega);have h2:=bJ.aE kb s x.box (by omega);have er:(au x.view).length=x.view.length:=by simp
 have et:(au x.view).take x.view.length=au x.view:=aa (by omega);by_cases c0:x.box=0
 ·rw[iB c0];refine aq (b:=bO.m) h0 ⟨0, ?_⟩;simp only[ao,boxes,ints,cN,dw] at h1 ⊢;rw[c0] at h1 ⊢;generalize au x.view=rv at*;generalize s.boxes.map ah=r1 at*;generalize au s.gone=r2 at*;simp (maxSteps:=9^9) [bB,bO.m,bO.b,ar,aa,setAt,ak,h1,er,et]
 ·cases q:gH s.boxes x.box with
  |none=>
   have e:told mc x s=({x with box:=0,view:=[]},se):=by simp only[told,if_neg c0,q]
   rw[e];rw[q] at h2;refine aq (b:=bO.m) h0 ⟨0, ?_⟩;simp only[ao,boxes,ints,cN,dw,se,di] at h1 h2 ⊢;generalize au x.view=rv at*;generalize s.boxes.map ah=r1 at*;generalize au s.gone=r2 at*;simp (maxSteps:=9^9) [bB,bO.m,bO.b,ar,aa,setAt,ak,h1,h2,er,et,c0]
  |some k=>
   obtain⟨hk,_⟩:=eE q;rw[q] at h2;have hbk:=hb _ (ax hk);have e:told mc x s=({x with view:=aI s.boxes[k]},(gK (aI s.boxes[k]) x.view).2++if mc (aI s.boxes[k]) x.view=true then kF++(dec ((aI s.boxes[k]).length:Int)++tn) else []):=by
    simp only[told,if_neg c0,q,cg hk]
   rw[e];have h3:=cF.aE kg s.boxes[k] (by omega);have gl:(aI s.boxes[k]).length=s.boxes[k].af.length:=by simp[aI]
   obtain⟨g,hr⟩:=bO.loop km kd (x.view.length+1) x hx s.boxes[k] hbk;have a1:∀hh,(s.boxes.map ah)[k]'hh=ah s.boxes[k]:=by intro hh;simp
   have el:(s.boxes.map ah).length=s.boxes.length:=by simp
   have hcl:=nW (aI s.boxes[k]) x.view;have htl:=kP (aI s.boxes[k]) x.view (by omega);have h4:=a0.aE kd (s.boxes[k].af.length:Int) (by omega) (by omega);have hd:=fX (n:=(s.boxes[k].af.length:Int)) (by omega) (by omega);have e0:((0:Nat):Int)=0:=rfl;have ec0:gK (aI s.boxes[k]) []=(0,[]):=rfl;have fl:(au (aI s.boxes[k])).length=s.boxes[k].af.length:=by simp[aI]
   have ft:(au (aI s.boxes[k])).take s.boxes[k].af.length=au (aI s.boxes[k]):=aa (by omega);have hk0:¬(k:Int)<0:=by omega
   refine aq (b:=bO.m) h0 ⟨x.view.length+1, ?_⟩;have hr:=fun n=>hr ⟨2000000,2000032,2000096,2000368,2000085,n⟩
   simp only[Am,BD,BC,A9,List.take_zero,ec0,List.take_length,e0] at hr;unfold mc;simp only[decide_eq_true_eq,gl];generalize aI s.boxes[k]=G at*;simp only[ao,boxes,ints,cN,dw,ah,af,di,lA,kF,tn] at h1 h2 h3 a1 hr ⊢;generalize gK G x.view=c at*;obtain⟨m,t⟩:=c;simp only at hcl htl hr ⊢;generalize au x.view=rv at*;generalize au G=rg at*;generalize au s.gone=r2 at*;generalize au s.boxes[k].gone=r3 at*;generalize dec (s.boxes[k].af.length:Int)=d at*;generalize hml:s.boxes[k].af.length=ml at*;generalize s.boxes[k].af.map aD=rm at*;generalize (s.boxes.map fun b:cX=>[I b.gid,S b.name,I b.time,I b.eP,I b.next,T.sl false 4 (b.af.map aD),T.sl false 1 (au b.gone)])=r1 at*;by_cases c1:m<ml
   ·have c2:(m:Int)<ml:=by omega
    rw[if_pos c1];simp (maxSteps:=9^9) (disch:=(first|omega|(simp;done)|(simp;omega))) [bB,bO.m,bO.b,ar,aa,setAt,ak,h1,h2,h3,h4,hr,a1,el,er,et,fl,ft,c0,c2,hk,hk0,add_lit,iu]
   ·have c2:¬(m:Int)<ml:=by omega
    rw[if_neg c1];simp (maxSteps:=9^9) (disch:=(first|omega|(simp;done)|(simp;omega))) [bB,bO.m,bO.b,ar,aa,setAt,ak,h1,h2,h3,h4,hr,a1,el,er,et,fl,ft,c0,c2,hk,hk0,add_lit,iu]
abbrev ev(l:List Token):T:= .sl false 2 (l.map aJ)
abbrev jC:List UInt8:=[76,79,71,73,78]
abbrev gA:List UInt8:=[82,69,78,65,77,69]
abbrev gY:List UInt8:=[65,80,80,69,78,68]
abbrev fG:List UInt8:=[83,84,79,82,69]
abbrev gf:List UInt8:=[67,82,69,65,84,69]
abbrev gd:List UInt8:=[68,69,76,69,84,69]
abbrev gy:List UInt8:=[83,69,76,69,67,84]
abbrev gx:List UInt8:=[83,84,65,84,85,83]
abbrev gj:List UInt8:=[70,69,84,67,72]
abbrev lQ:List UInt8:=[78,79,79,80]
abbrev il:List UInt8:=[76,79,71,79,85,84]
abbrev kj:List UInt8:=[76,73,83,84]
abbrev eG:List UInt8:=[69,88,80,85,78,71,69]
def dk(w:List UInt8):Int:=if w=jC then 3 else if w=gA then 3 else if w=gY then 3 else if w=fG then 3 else if w=gf then 2 else if w=gd then 2 else if w=gy then 2 else if w=gx then 2 else if w=gj then 2 else if w=lQ then 1 else if w=il then 1 else if w=kj then 1 else if w=eG then 1 else 0
theorem aO.aE(h:aO.k M)(w:List UInt8):run M 307 [.c (S w)] []=some (.c (I (dk w)),[]):=by
 refine aq (b:=aO.m) h ⟨0, ?_⟩;by_cases c0:w=jC
 ·subst c0;simp (maxSteps:=9^9) [bB,aO.m,aO.b,ar,aa,setAt,ak,bj,dk]
 ·have c0:=c0;by_cases c1:w=gA
  ·subst c1;simp (maxSteps:=9^9) [bB,aO.m,aO.b,ar,aa,setAt,ak,bj,dk]
  ·have c1:=c1;by_cases c2:w=gY
   ·subst c2;simp (maxSteps:=9^9) [bB,aO.m,aO.b,ar,aa,setAt,ak,bj,dk]
   ·have c2:=c2;by_cases c3:w=fG
    ·subst c3;simp (maxSteps:=9^9) [bB,aO.m,aO.b,ar,aa,setAt,ak,bj,dk]
    ·have c3:=c3;by_cases c4:w=gf
     ·subst c4;simp (maxSteps:=9^9) [bB,aO.m,aO.b,ar,aa,setAt,ak,bj,dk]
     ·have c4:=c4;by_cases c5:w=gd
      ·subst c5;simp (maxSteps:=9^9) [bB,aO.m,aO.b,ar,aa,setAt,ak,bj,dk]
      ·have c5:=c5;by_cases c6:w=gy
       ·subst c6;simp (maxSteps:=9^9) [bB,aO.m,aO.b,ar,aa,setAt,ak,bj,dk]
       ·have c6:=c6;by_cases c7:w=gx
        ·subst c7;simp (maxSteps:=9^9) [bB,aO.m,aO.b,ar,aa,setAt,ak,bj,dk]
        ·have c7:=c7;by_cases c8:w=gj
         ·subst c8;simp (maxSteps:=9^9) [bB,aO.m,aO.b,ar,aa,setAt,ak,bj,dk]
         ·have c8:=c8;by_cases c9:w=lQ
          ·subst c9;simp (maxSteps:=9^9) [bB,aO.m,aO.b,ar,aa,setAt,ak,bj,dk]
          ·have c9:=c9;by_cases c10:w=il
           ·subst c10;simp (maxSteps:=9^9) [bB,aO.m,aO.b,ar,aa,setAt,ak,bj,dk]
           ·have c10:=c10;by_cases c11:w=kj
            ·subst c11;simp (maxSteps:=9^9) [bB,aO.m,aO.b,ar,aa,setAt,ak,bj,dk]
            ·have c11:=c11;by_cases c12:w=eG
             ·subst c12;simp (maxSteps:=9^9) [bB,aO.m,aO.b,ar,aa,setAt,ak,bj,dk]
             ·have c12:=c12;simp (maxSteps:=9^9) [bB,aO.m,aO.b,ar,aa,setAt,ak,bj,dk,c0,c1,c2,c3,c4,c5,c6,c7,c8,c9,c10,c11,c12]
def fR(w:List UInt8):Bool:=decide (w=gj)||(decide (w=fG)||decide (w=eG))
theorem a8.aE(h:a8.k M)(w:List UInt8):run M 308 [.c (S w)] []=some (.c (.bool (fR w)),[]):=by
 refine aq (b:=a8.m) h ⟨0, ?_⟩;by_cases c1:w=gj
 ·subst c1;simp (maxSteps:=9^9) [bB,a8.m,a8.b,ar,aa,setAt,ak,bj,fR]
 ·by_cases c2:w=fG
  ·subst c2;simp (maxSteps:=9^9) [bB,a8.m,a8.b,ar,aa,setAt,ak,bj,fR]
  ·by_cases c3:w=eG
   ·subst c3;simp (maxSteps:=9^9) [bB,a8.m,a8.b,ar,aa,setAt,ak,bj,fR]
   ·simp (maxSteps:=9^9) [bB,a8.m,a8.b,ar,aa,setAt,ak,bj,fR,c1,c2,c3]
theorem oy{l:List cX}{x:List UInt8}{k:Nat}(h:named l x=some k):k<l.length:=by
 unfold named at h;exact(List.findIdx?_eq_some_iff_getElem.1 h).1
theorem gm{p:List Token}{i:Nat}(hi:i<p.length):∀hh,(p.map aJ)[i]'hh=aJ p[i]:=by intro hh;simp
theorem bQ.aE(h:bQ.k M)(s:aP)(hs:s.boxes.length≤1000)(gid:Int)(w:List UInt8)(p:List Token)(hp:1≤p.length)(hw:w=gf∨w=gd∨2≤p.length):
  ∃(a b c d:Int) (t:List UInt8) (ok:Bool),run M 311 [.a (ao s),.c (I gid),.c (S w),.c (ev p)] []=some (.hC [.a [I a,I b,I c,I d,S t],.c (.bool ok)],[]):=by
 obtain⟨h0,kn⟩:=h;have h1:=bg.aE kn s p[0].text (by omega);have t0:=gm (p:=p) (i:=0) (by omega);have el:(p.map aJ).length=p.length:=by simp
 have bl:(s.boxes.map ah).length=s.boxes.length:=by simp
 have p0:(0:Int)<p.length:=by omega
 have p0':0<p.length:=by omega
 have e0:((0:Nat):Int)=0:=rfl;by_cases c0:w=gf
 ·subst c0;refine⟨1,gid,0,0,p[0].text,true,aq (b:=bQ.m) h0 ⟨0, ?_⟩⟩;simp only[ao,boxes,ints,aJ] at h1 t0 el ⊢;generalize (p.map fun x:Token=>[I x.kind,S x.text])=rp at*;generalize s.boxes.map ah=r1 at*;simp (maxSteps:=9^9) [bB,bQ.m,bQ.b,ar,aa,setAt,ak,h1,t0,el,p0,p0',bj]
 ·cases q:named s.boxes p[0].text with
  |none=>
   rw[q] at h1;refine⟨0,0,0,0,[],false,aq (b:=bQ.m) h0 ⟨0, ?_⟩⟩;simp only[ao,boxes,ints,aJ,di] at h1 t0 el ⊢;generalize (p.map fun x:Token=>[I x.kind,S x.text])=rp at*;generalize s.boxes.map ah=r1 at*;simp (maxSteps:=9^9) [bB,bQ.m,bQ.b,ar,aa,setAt,ak,h1,t0,el,p0,p0',bj,c0]
  |some k=>
   have hk:k<s.boxes.length:=oy q;have a1:∀hh,(s.boxes.map ah)[k]'hh=ah s.boxes[k]:=by intro hh;simp
   have hk0:¬(k:Int)<0:=by omega
   rw[q] at h1;by_cases c1:w=gd
   ·subst c1;refine⟨3,s.boxes[k].gid,0,0,[],true,aq (b:=bQ.m) h0 ⟨0, ?_⟩⟩;simp only[ao,boxes,ints,aJ,di] at h1 t0 el ⊢;generalize (p.map fun x:Token=>[I x.kind,S x.text])=rp at*;generalize s.boxes.map ah=r1 at*;simp (maxSteps:=9^9) [bB,bQ.m,bQ.b,ar,aa,setAt,ak,h1,t0,el,p0,p0',bl,hk,hk0,a1,bj]
   ·have hp2:2≤p.length:=by
     rcases hw with z|z|z
     ·exact(c0 z).elim
     ·exact(c1 z).elim
     ·exact z
    have t1:=gm (p:=p) (i:=1) (by omega);have p1:1<p.length:=by omega
    by_cases c2:w=gA
    ·subst c2;refine⟨2,s.boxes[k].gid,0,0,p[1].text,true,aq (b:=bQ.m) h0 ⟨0, ?_⟩⟩;simp only[ao,boxes,ints,aJ,di] at h1 t0 t1 el ⊢;generalize (p.map fun x:Token=>[I x.kind,S x.text])=rp at*;generalize s.boxes.map ah=r1 at*;simp (maxSteps:=9^9) [bB,bQ.m,bQ.b,ar,aa,setAt,ak,h1,t0,t1,el,p0,p0',p1,bl,hk,hk0,a1,bj]
    ·refine⟨4,s.boxes[k].gid,gid,0,p[1].text,true,aq (b:=bQ.m) h0 ⟨0, ?_⟩⟩;simp only[ao,boxes,ints,aJ,di] at h1 t0 t1 el ⊢;generalize (p.map fun x:Token=>[I x.kind,S x.text])=rp at*;generalize s.boxes.map ah=r1 at*;simp (maxSteps:=9^9) [bB,bQ.m,bQ.b,ar,aa,setAt,ak,h1,t0,t1,el,p0,p0',p1,bl,hk,hk0,a1,bj,c0,c1,c2]
structure fv (s:aP) (x:a5):Prop where
 i:x.AW=[]
 o:x.out=[42,32,79,75,13,10]
 v:x.view=[]∨∃b∈s.boxes,x.view=aI b
theorem fv.len{s:aP}{x:a5}(h:fv s x)(hs:aW s=true):x.view.length≤10:=by
 rcases h.v with e|⟨b,hb,e⟩
 ·rw[e];simp
 ·rw[e];have:=((bW.1 hs).box b hb).1.len;simpa [aI] using this
def eL(x:a5):Nat×Ob:=(0,⟨0,6,true,true,[cN x]⟩)
theorem lF(l:List UInt8):(quoted l).1.length≤130:=by
 unfold quoted;split
 ·simp
 ·split
  ·simp
  ·have:=oQ l;simp only[ae,aN,ai];omega
structure BZ where
 i:Nat
 t:List UInt8
 v:Nat
 n:Nat
def BE(s:BZ):List (Nat×V):=[(5,.c (.ptr 5 s.v 0 0)),(10,.c (S s.t)),(11,.c (I s.i))]
def BF(x:a5)(st:aP)(s:BZ):List (Nat×Ob):=[eL x,(5,⟨s.v,4,true,true,[ao st]⟩)]
def yv(x:a5)(st:aP)(s:BZ):St:={t:=BE s,o:=BF x st s,n:=s.n}
def BG(x:a5)(st:aP)(s:BZ):St:={t:=BE s++[(24,.c (.bool false))],o:=BF x st s,n:=s.n}
theorem yN(kq:a_.k M)(k:Nat)(x:a5)(st:aP)(hs:st.boxes.length≤5)(hn:∀b∈st.boxes,b.name.length≤1000)(s:BZ)(h:s.i≤st.boxes.length∧s.t.length≤200*s.i):
  (∃s',b9 (run M) k aY.l0 (yv x st s)=some (.normal,yv x st s')∧(s'.i≤st.boxes.length∧s'.t.length≤200*s'.i)∧st.boxes.length-s'.i<st.boxes.length-s.i)∨
   (∃r,b9 (run M) k aY.l0 (yv x st s)=some r∧r.1≠.normal∧∃s',r=(.exit 0,BG x st s')∧s'.t.length≤1000):=by
 obtain⟨i,t,v,n⟩:=s;obtain⟨hi,ht⟩:=h;simp only at hi ht;have bl:(st.boxes.map ah).length=st.boxes.length:=by simp
 by_cases c:i<st.boxes.length
 ·left;have a1:∀hh,(st.boxes.map ah)[i]'hh=ah st.boxes[i]:=by intro hh;simp
  have h1:=a_.aE kq st.boxes[i].name (by have:=hn _ (ax c);omega);have hq:=lF st.boxes[i].name;have c1:(i:Int)<st.boxes.length:=by omega
  have e5:=dS (i:=i) (by omega);generalize quoted st.boxes[i].name=q at*;obtain⟨q,z⟩:=q;simp only at h1 hq;have hh:∃n',b9 (run M) k aY.l0 (yv x st ⟨i,t,v,n⟩)=some (.normal,yv x st ⟨i+1,t++[42,32,76,73,83,84,32]++q++[13,10],v,n'⟩):=by
   simp only[yv,BE,BF,eL];simp only[ao,boxes,ints,cN] at h1 ⊢;generalize st.boxes.map ah=r1 at*;generalize au x.view=rv at*;generalize au st.gone=r2 at*;simp (maxSteps:=9^9) (disch:=(first|omega|(simp;done)|(simp;omega))) [aY.l0,ar,aa,setAt,ak,h1,a1,bl,c,c1,e5,add_lit,iu]
  obtain⟨n',hh⟩:=hh;exact⟨_,hh,⟨c,by simp;omega⟩,by simp only;omega⟩
 ·right;have c1:¬(i:Int)<st.boxes.length:=by omega
  have hh:∃n',b9 (run M) k aY.l0 (yv x st ⟨i,t,v,n⟩)=some (.exit 0,BG x st ⟨i,t,v,n'⟩):=by
   simp only[yv,BG,BE,BF,eL];simp only[ao,boxes,ints,cN];generalize st.boxes.map ah=r1 at*;generalize au x.view=rv at*;generalize au st.gone=r2 at*;simp (maxSteps:=9^9) [aY.l0,ar,aa,setAt,ak,bl,c1]
  obtain⟨n',hh⟩:=hh;exact⟨_,hh,by simp,_,rfl,by simp only;omega⟩
theorem aY.aE(h:aY.k M)(s:aP)(hs:aW s=true)(x:a5)(hx:fv s x)(w:List UInt8)(p:List Token)(hw:w=kj∨1≤p.length):
  ∃(x':a5) (t:List UInt8) (ok:Bool),fv s x'∧t.length≤1000∧run M 309 [.c (.ptr 0 0 0 0),.a (ao s),.c (S w),.c (ev p)] [eL x]=some (.hC [.c (S t),.c (.bool ok)],[eL x']):=by
 obtain⟨h0,kd,kg,kn,kq,km⟩:=h;have G:=bW.1 hs;have hbl:=G.len;have hname:∀b∈s.boxes,b.name.length≤1000:=fun b hb=>by have:=jU (G.box b hb).1.name;omega
 have bl:(s.boxes.map ah).length=s.boxes.length:=by simp
 by_cases cl:w=kj
 ·subst cl;obtain⟨r,hr,⟨⟨i,t,v,n⟩,rfl,ht⟩⟩:=fc (f:=b9 (run M) 6 aY.l0) (yv x s) (fun q=>q.i≤s.boxes.length∧q.t.length≤200*q.i) (fun q=>s.boxes.length-q.i) (fun r=>∃s',r=(.exit 0,BG x s s')∧s'.t.length≤1000)
   (fun q hq=>yN kq 6 x s hbl hname q hq) 6 ⟨0,[],2000000,2000112⟩ ⟨by simp,by simp⟩ (by simp only;omega)
  refine⟨x,t,true,hx,ht,aq (b:=aY.m) h0 ⟨6, ?_⟩⟩;have e0:((0:Nat):Int)=0:=rfl;simp only[yv,BG,BE,BF,eL,e0] at hr ⊢;simp only[ao,boxes,ints,cN] at hr ⊢;generalize s.boxes.map ah=r1 at*;generalize au x.view=rv at*;generalize au s.gone=r2 at*;generalize p.map aJ=rp at*;simp (maxSteps:=9^9) [bB,aY.m,aY.b,ar,aa,setAt,ak,hr,bj]
 ·have hp:1≤p.length:=hw.resolve_left cl;have h1:=bg.aE kn s p[0].text (by omega);have t0:=gm (p:=p) (i:=0) (by omega);have el:(p.map aJ).length=p.length:=by simp
  have p0:(0:Int)<p.length:=by omega
  have p0':0<p.length:=by omega
  have e0:((0:Nat):Int)=0:=rfl;by_cases c1:w=gy
  ·subst c1;cases q:named s.boxes p[0].text with
   |none=>
    rw[q] at h1;refine⟨{x with box:=0,view:=[]},[],false,⟨hx.i,hx.o,.inl rfl⟩,by simp,aq (b:=aY.m) h0 ⟨0, ?_⟩⟩
    simp only[eL,ao,boxes,ints,aJ,di,cN,fN] at h1 t0 el ⊢;generalize (p.map fun x:Token=>[I x.kind,S x.text])=rp at*;generalize s.boxes.map ah=r1 at*;generalize au x.view=rv at*;generalize au s.gone=r2 at*;simp (maxSteps:=9^9) [bB,aY.m,aY.b,ar,aa,setAt,ak,h1,t0,el,p0,p0',bj]
   |some k=>
    have hk:k<s.boxes.length:=oy q;have a1:∀hh,(s.boxes.map ah)[k]'hh=ah s.boxes[k]:=by intro hh;simp
    have hk0:¬(k:Int)<0:=by omega
    rw[q] at h1;have B:=(G.box _ (ax hk)).1;have hm:=B.len;have h2:=cF.aE kg s.boxes[k] (by omega);have h3:=a0.aE kd (s.boxes[k].af.length:Int) (by omega) (by omega);have hd:=fX (n:=(s.boxes[k].af.length:Int)) (by omega) (by omega);obtain⟨u,hu,h4⟩:=cU.aE km s.boxes[k].next (by have:=B.next;omega);refine⟨{x with box:=s.boxes[k].gid,view:=aI s.boxes[k]},[42,32]++dec (s.boxes[k].af.length:Int)++[32,69,88,73,83,84,83,13,10,42,32,79,75,32,78,69,88,84,32]++u++[13,10],true,⟨hx.i,hx.o,.inr ⟨_,ax hk,rfl⟩⟩,by simp;omega,aq (b:=aY.m) h0 ⟨0, ?_⟩⟩
    have em:(s.boxes[k].af.map aD).length=s.boxes[k].af.length:=by simp
    simp only[eL,ao,boxes,ints,aJ,di,cN,ah,af] at h1 h2 t0 el a1 em ⊢;generalize (p.map fun x:Token=>[I x.kind,S x.text])=rp at*;generalize au (aI s.boxes[k])=rg at*;generalize dec (s.boxes[k].af.length:Int)=d at*;generalize s.boxes[k].af.length=ml at*;generalize s.boxes[k].af.map aD=rm at*;generalize au s.boxes[k].gone=r3 at*;generalize (s.boxes.map fun b:cX=>[I b.gid,S b.name,I b.time,I b.eP,I b.next,T.sl false 4 (b.af.map aD),T.sl false 1 (au b.gone)])=r1 at*;generalize au x.view=rv at*;generalize au s.gone=r2 at*;simp (maxSteps:=9^9) (disch:=(first|omega|(simp;done)|(simp;omega))) [bB,aY.m,aY.b,ar,aa,setAt,ak,h1,h2,h3,h4,t0,el,em,p0,p0',bl,hk,hk0,a1,bj,add_lit,iu]
  ·cases q:named s.boxes p[0].text with
   |none=>
    rw[q] at h1;refine⟨x,[],false,hx,by simp,aq (b:=aY.m) h0 ⟨0, ?_⟩⟩;simp only[eL,ao,boxes,ints,aJ,di,cN] at h1 t0 el ⊢;generalize (p.map fun x:Token=>[I x.kind,S x.text])=rp at*;generalize s.boxes.map ah=r1 at*;generalize au x.view=rv at*;generalize au s.gone=r2 at*;simp (maxSteps:=9^9) [bB,aY.m,aY.b,ar,aa,setAt,ak,h1,t0,el,p0,p0',bj,cl,c1]
   |some k=>
    have hk:k<s.boxes.length:=oy q;have a1:∀hh,(s.boxes.map ah)[k]'hh=ah s.boxes[k]:=by intro hh;simp
    have hk0:¬(k:Int)<0:=by omega
    rw[q] at h1;have B:=(G.box _ (ax hk)).1;have hm:=B.len;have h2:=cF.aE kg s.boxes[k] (by omega);have h3:=a0.aE kd (s.boxes[k].af.length:Int) (by omega) (by omega);have hd:=fX (n:=(s.boxes[k].af.length:Int)) (by omega) (by omega);obtain⟨u,hu,h4⟩:=cU.aE km s.boxes[k].next (by have:=B.next;omega);have h5:=a_.aE kq s.boxes[k].name (by have:=hname _ (ax hk);omega);have hq:=lF s.boxes[k].name;generalize quoted s.boxes[k].name=y at*;obtain⟨y,z⟩:=y;simp only at h5 hq;have em:(s.boxes[k].af.map aD).length=s.boxes[k].af.length:=by simp
    by_cases c2:w=gx
    ·subst c2;refine⟨x,[42,32,83,84,65,84,85,83,32]++y++[32]++dec (s.boxes[k].af.length:Int)++[32]++u++[13,10],true,hx,by simp;omega,aq (b:=aY.m) h0 ⟨0, ?_⟩⟩;simp only[eL,ao,boxes,ints,aJ,di,cN,ah,af] at h1 h2 t0 el a1 em ⊢;generalize (p.map fun x:Token=>[I x.kind,S x.text])=rp at*;generalize au (aI s.boxes[k])=rg at*;generalize dec (s.boxes[k].af.length:Int)=d at*;generalize s.boxes[k].af.length=ml at*;generalize s.boxes[k].af.map aD=rm at*;generalize au s.boxes[k].gone=r3 at*;generalize (s.boxes.map fun b:cX=>[I b.gid,S b.name,I b.time,I b.eP,I b.next,T.sl false 4 (b.af.map aD),T.sl false 1 (au b.gone)])=r1 at*;generalize au x.view=rv at*;generalize au s.gone=r2 at*;simp (maxSteps:=9^9) (disch:=(first|omega|(simp;done)|(simp;omega))) [bB,aY.m,aY.b,ar,aa,setAt,ak,h1,h2,h3,h4,h5,t0,el,em,p0,p0',bl,hk,hk0,a1,bj,add_lit,iu]
    ·refine⟨{x with box:=s.boxes[k].gid,view:=aI s.boxes[k]},[42,32]++dec (s.boxes[k].af.length:Int)++[32,69,88,73,83,84,83,13,10,42,32,79,75,32,78,69,88,84,32]++u++[13,10],true,⟨hx.i,hx.o,.inr ⟨_,ax hk,rfl⟩⟩,by simp;omega,aq (b:=aY.m) h0 ⟨0, ?_⟩⟩
     simp only[eL,ao,boxes,ints,aJ,di,cN,ah,af] at h1 h2 t0 el a1 em ⊢;generalize (p.map fun x:Token=>[I x.kind,S x.text])=rp at*;generalize au (aI s.boxes[k])=rg at*;generalize dec (s.boxes[k].af.length:Int)=d at*;generalize s.boxes[k].af.length=ml at*;generalize s.boxes[k].af.map aD=rm at*;generalize au s.boxes[k].gone=r3 at*;generalize (s.boxes.map fun b:cX=>[I b.gid,S b.name,I b.time,I b.eP,I b.next,T.sl false 4 (b.af.map aD),T.sl false 1 (au b.gone)])=r1 at*;generalize au x.view=rv at*;generalize au s.gone=r2 at*;simp (maxSteps:=9^9) (disch:=(first|omega|(simp;done)|(simp;omega))) [bB,aY.m,aY.b,ar,aa,setAt,ak,h1,h2,h3,h4,t0,el,em,p0,p0',bl,hk,hk0,a1,bj,cl,c1,c2,add_lit,iu]
end Mx
namespace Mx
open Go
variable {M:Nat→Option Body}
structure Range where
 a:Int
 b:Int
def fu(r:Range):List T:=[I r.a,I r.b]
def rows(l:List Range):List (List T):=l.map fu
abbrev jN(l:List Range):T:= .sl false 2 (rows l)
theorem rH(l:List Range):(rows l).length=l.length:=by simp[rows]
theorem y0(l:List Range)(i:Nat)(h:i<(rows l).length):(rows l)[i]=fu (l[i]'(by simpa [rows] using h)):=by simp[rows]
def hit(n last:Int)(r:Range):Bool:=
 let a:=if r.a=0 then last else r.a
 let b:=if r.b=0 then last else r.b
 if b<a then decide (b≤n)&&decide (n≤a) else decide (a≤n)&&decide (n≤b)
def oI(l:List Range)(n last:Int):Bool:=decide (1≤n)&&l.any (hit n last)
def AL(l:List Range)(n last:Int)(i:Nat)(x:Nat):St:={t:=[(0,.c (jN l)),(1,.c (I n)),(2,.c (I last)),(7,.c (I i))],o:=[],n:=x}
theorem cD.round(k:Nat)(l:List Range)(n last:Int)(hl:l.length≤1048576)(i:Nat)(hi:i<l.length)(x:Nat):
  if hit n last l[i] then ∃y,b9 (run M) k cD.l0 (AL l n last i x)=some (.ret,{t:=[(6,.c (.bool true))],o:=[],n:=y})
  else ∃y,b9 (run M) k cD.l0 (AL l n last i x)=some (.normal,AL l n last (i+1) y):=by
 have e5:=dS (i:=i) (by omega);by_cases ha:l[i].a=0<;>by_cases hb:l[i].b=0<;>by_cases hc:(if l[i].b=0 then last else l[i].b)<(if l[i].a=0 then last else l[i].a)<;>
  by_cases h1:(if(if l[i].b=0 then last else l[i].b)<(if l[i].a=0 then last else l[i].a) then(if l[i].b=0 then last else l[i].b) else(if l[i].a=0 then last else l[i].a))≤n<;>
  by_cases h2:n≤(if(if l[i].b=0 then last else l[i].b)<(if l[i].a=0 then last else l[i].a) then(if l[i].a=0 then last else l[i].a) else(if l[i].b=0 then last else l[i].b))<;>
  simp only[ha,hb,if_true,if_false] at hc h1 h2<;>simp only[hc,if_true,if_false] at h1 h2<;>
  simp[AL,cD.l0,hit,hi,jN,rH,y0,fu,e5,ha,hb,hc,h1,h2]
theorem cD.aE(h:cD.k M)(l:List Range)(n last:Int)(hl:l.length≤1048576):run M 327 [.c (jN l),.c (I n),.c (I last)] []=some (.c (.bool (oI l n last)),[]):=by
 obtain⟨k,hk,hno,hend⟩:=r9 (hit n last) l;obtain⟨bb,hbb⟩:∃b,l.any (hit n last)=b:=⟨_,rfl⟩
 rw[hbb] at hend;refine aq (b:=cD.m) h ⟨k+1, ?_⟩;by_cases hn:n<1
 ·have:¬1≤n:=by omega
  simp[bB,cD.m,cD.b,ab,oI,hn,this]
 have hn':1≤n:=by omega
 obtain⟨r,hr,hp⟩:=rO (f:=b9 (run M) (k+1) cD.l0) (AL l n last) (fun r=>∃m,r=if bb=true then(.ret,{t:=[(6,.c (.bool true))],o:=[],n:=m}) else(.exit 0,{t:=[(0,.c (jN l)),(1,.c (I n)),(2,.c (I last)),(7,.c (I l.length)),(15,.c (.bool false))],o:=[],n:=m})) k
  (fun i hi x=>by have:=cD.round (M:=M) (k+1) l n last hl i (by omega) x;rw[hno i (by omega) hi] at this;simpa using this)
  (by
   intro x;rcases hend with⟨rfl,h⟩|⟨h1,h2,h3⟩
   ·simp[AL,cD.l0,jN,rH,h]
   ·have:=cD.round (M:=M) (k+1) l n last hl k h1 x;rw[h2,if_pos rfl] at this;obtain⟨y,hy⟩:=this;exact⟨_,hy,by simp,y,by rw[h3,if_pos rfl]⟩)
  (k+1) (by omega) 2000064
 obtain⟨m,rfl⟩:=hp;simp[AL,jN] at hr;cases bb with
 |true=>
  simp only[if_true] at hr;simp[bB,cD.m,cD.b,ab,oI,hn,hn',jN,hr,hbb,-List.any_eq_true]
 |false=>
  simp only[az,if_false] at hr;simp[bB,cD.m,cD.b,ab,oI,hn,hn',jN,hr,hbb,-List.any_eq_true]
def eH(l:List Range)(n:Int):Nat→Int→List Int
 |0,_=>[]
 |d+1,i=>if i≤n∧i≤100 then(if oI l i n then [i] else [])++eH l n d (i+1) else []
def ff(l:List Range)(n:Int):List Int:=eH l n 100 1
theorem ma(l:List Range)(n:Int):∀(d:Nat) (i:Int),(eH l n d i).length≤d
 |0,_=>by simp[eH]
 |d+1,i=>by
  have:=ma l n d (i+1);simp only[eH];split
  ·split<;>simp<;>omega
  ·simp
def pt(l:List Range)(n:Int)(s:Nat×List Int)(x:Nat×Nat):St:={t:=[(0,.c (jN l)),(1,.c (I n)),(5,.c (.row 7 x.1 0 s.2.length)),(6,.c (I s.1))],o:=[(7,⟨x.1,1,true,false,au s.2⟩)],n:=x.2}
def BL(s:Nat×List Int):Prop:=1≤s.1∧s.1≤101∧s.2.length<s.1
theorem bU.aE(h:bU.k M)(l:List Range)(n:Int)(hl:l.length≤1048576):run M 323 [.c (jN l),.c (I n)] []=some (.c (.sl true 1 (au (ff l n))),[]):=by
 refine aq (b:=bU.m) h.1 ⟨102, ?_⟩;obtain⟨g,hr⟩:=hO (f:=b9 (run M) 102 bU.l0) (pt l n) BL (fun s=>101-s.1) (fun s=>s.2++eH l n (101-s.1) s.1)
  (fun q (m:Nat×Nat×Nat)=>(.exit 0,{t:=[(0,.c (jN l)),(1,.c (I n)),(5,.c (.row 7 m.1 0 q.length)),(6,.c (I m.2.1)),(14,.c (.bool false))],o:=[(7,⟨m.1,1,true,false,au q⟩)],n:=m.2.2}))
  (by
   rintro ⟨i,acc⟩ ⟨v,x⟩ ⟨h1,h2,h3⟩;simp only at h1 h2 h3;by_cases hn:(i:Int)≤n
   ·by_cases hm:(i:Int)≤100
    ·have e5:=dS (i:=i) (by omega);have hs:=cD.aE h.2 l i n hl;have hd:101-i=(101-(i+1))+1:=by omega
     have hp:eH l n (101-i) i=(if oI l i n then [(i:Int)] else [])++eH l n (101-(i+1)) ((i+1:Nat):Int):=by
      rw[hd,eH,if_pos ⟨hn,hm⟩];rfl
     left;cases hb:oI l i n with
     |true=>
      rw[hb] at hs;obtain⟨y,hy⟩:∃y,b9 (run M) 102 bU.l0 (pt l n (i,acc) (v,x))=some (.normal,pt l n (i+1,acc++[(i:Int)]) y):=by
       have e9:acc.length+1≤4294967296:=by omega
       have e10:[[I (i:Int)]]=au [(i:Int)]:=rfl;simp only[bP];simp[pt,bU.l0,hn,hm,hs,e5,e9,e10,aa]
      refine⟨(i+1,acc++[(i:Int)]),y,hy,⟨by simp only;omega,by simp only;omega,by simp only[aN,d_];omega⟩,by simp only;omega, ?_⟩;simp only[hp,hb,if_true,cY]
     |false=>
      rw[hb] at hs;obtain⟨y,hy⟩:∃y,b9 (run M) 102 bU.l0 (pt l n (i,acc) (v,x))=some (.normal,pt l n (i+1,acc) y):=by
       simp only[bP];simp[pt,bU.l0,hn,hm,hs,e5]
      refine⟨(i+1,acc),y,hy,⟨by simp only;omega,by simp only;omega,by simp only;omega⟩,by simp only;omega, ?_⟩;simp only[hp,hb,az,if_false,eu]
    ·have hp:eH l n (101-i) i=[]:=by
      have:101-i=0:=by omega
      rw[this,eH]
     right;refine⟨(v,i,x+112), ?_,by simp⟩;simp only[hp,kC];simp[pt,bU.l0,hn,hm]
   ·have hp:eH l n (101-i) i=[]:=by
     cases hd:101-i with
     |zero=>rfl
     |succ d=>rw[eH,if_neg (fun h=>hn h.1)]
    right;refine⟨(v,i,x+112), ?_,by simp⟩;simp only[hp,kC];simp[pt,bU.l0,hn])
  102 (1,[]) ⟨by simp,by simp,by simp⟩ (by simp)
 simp only[eu] at hr;have hpk:eH l n 100 1=ff l n:=rfl;simp[pt,jN,hpk] at hr;simp[bB,bU.m,bU.b,ab,jN,hr]
def ja(n:Int):Bool:= !(decide (n<33)||decide (126<n)||decide (n=34)||decide (n=40)||decide (n=41)||decide (n=123)||decide (n=125)||decide (n=92))
def kS(l:List UInt8):Bool:=l.all (fun b=>ja b.toNat)&&(decide (1≤(l.length:Int))&&decide ((l.length:Int)≤40))
def lp(l:List UInt8)(i:Nat)(x:Nat):St:={t:=[(0,.c (S l)),(3,.c (I i))],o:=[],n:=x}
theorem bw.round(cf:bH)(k:Nat)(l:List UInt8)(hl:l.length≤1048576)(i:Nat)(hi:i<l.length)(x:Nat):
  if ja l[i].toNat then ∃y,b9 cf k bw.l0 (lp l i x)=some (.normal,lp l (i+1) y) else ∃y,b9 cf k bw.l0 (lp l i x)=some (.ret,{t:=[(2,.c (.bool false))],o:=[],n:=y}):=by
 have e5:=dS (i:=i) (by omega);by_cases h1:(l[i].toNat:Int)<33
 ·simp[lp,bw.l0,hi,ar,ja,h1]
 by_cases h2:126<(l[i].toNat:Int)
 ·simp[lp,bw.l0,hi,ar,ja,h1,h2]
 by_cases h3:(l[i].toNat:Int)=34
 ·simp[lp,bw.l0,hi,ar,ja,h1,h2,h3]
 by_cases h4:(l[i].toNat:Int)=40
 ·simp[lp,bw.l0,hi,ar,ja,h1,h2,h3,h4]
 by_cases h5:(l[i].toNat:Int)=41
 ·simp[lp,bw.l0,hi,ar,ja,h1,h2,h3,h4,h5]
 by_cases h6:(l[i].toNat:Int)=123
 ·simp[lp,bw.l0,hi,ar,ja,h1,h2,h3,h4,h5,h6]
 by_cases h7:(l[i].toNat:Int)=125
 ·simp[lp,bw.l0,hi,ar,ja,h1,h2,h3,h4,h5,h6,h7]
 by_cases h8:(l[i].toNat:Int)=92
 ·simp[lp,bw.l0,hi,ar,ja,h1,h2,h3,h4,h5,h6,h7,h8]
 simp[lp,bw.l0,hi,ar,ja,e5,h1,h2,h3,h4,h5,h6,h7,h8]
theorem bw.aE(h:bw.k M)(l:List UInt8)(hl:l.length≤1048576):run M 325 [.c (S l)] []=some (.c (.bool (kS l)),[]):=by
 have hw:=bh.aE h.2 l.length 1 40;refine aq (b:=bw.m) h.1 ⟨l.length+1, ?_⟩;obtain⟨g,hr⟩:=hO (f:=b9 (run M) (l.length+1) bw.l0) (lp l) (fun i=>i≤l.length) (fun i=>l.length-i) (fun i=>(l.drop i).all (fun b=>ja b.toNat))
  (fun q m=>if q=true then(.exit 0,{t:=[(0,.c (S l)),(3,.c (I l.length)),(8,.c (.bool false))],o:=[],n:=m}) else(.ret,{t:=[(2,.c (.bool false))],o:=[],n:=m}))
  (by
   intro i x hi;by_cases hlt:i<l.length
   ·have hr:=bw.round (run M) (l.length+1) l hl i hlt x;rw[cB hlt,List.all_cons];cases ha:ja l[i].toNat with
    |true=>
     rw[ha,if_pos rfl] at hr;obtain⟨y,hy⟩:=hr;exact .inl ⟨i+1,y,hy,hlt,by omega,by simp⟩
    |false=>
     rw[ha,if_neg (by simp)] at hr;obtain⟨y,hy⟩:=hr;exact .inr ⟨y,by rw[hy];simp,by simp⟩
   ·have:i=l.length:=by omega
    subst this;exact .inr ⟨x+64,by simp[lp,bw.l0],by simp⟩)
  (l.length+1) 0 (Nat.zero_le _) (by omega)
 simp only[List.drop_zero] at hr;cases ha:l.all (fun b=>ja b.toNat) with
 |true=>
  simp[lp,ha,-List.all_eq_true] at hr;simp[bB,bw.m,bw.b,ab,hr,hw,kS,ha]
 |false=>
  simp[lp,ha,-List.all_eq_true] at hr;simp[bB,bw.m,bw.b,ab,hr,kS,ha]
end Mx
namespace Mx
open Go
abbrev Ad:=Token×Nat×Int
def qo:Ad:=(⟨0,[]⟩,0,1)
def wA:Ad:=(⟨0,[]⟩,0,2)
def dV(b:UInt8):Bool:=decide (48≤b)&&decide (b≤57)
def BW:List UInt8→Nat×Nat
 |[]=>(0,1)
 |[a]=>if dV a then(a.toNat-48,2) else(0,1)
 |a::b::_=>if dV a then(if dV b then(10*(a.toNat-48)+(b.toNat-48),3) else(a.toNat-48,2)) else(0,1)
def CR:List UInt8:=[125,13,10]
def BV(l:List UInt8)(n i:Nat):Ad:=
 if l.drop i=[]∧n≤60 then qo else if i=1∨60<n then wA else
 if(l.drop i).length<3∧l.drop i=CR.take (l.drop i).length then qo else
 if(l.drop i).take 3≠CR then wA else if(l.drop i).length<3+n then qo else(⟨2,(l.drop (i+3)).take n⟩,i+3+n,0)
def Ci(l:List UInt8):Ad:=BV l (BW (l.drop 1)).1 (BW (l.drop 1)).2
def val:List UInt8→Nat→Nat
 |[],n=>n
 |d::l,n=>val l (10*n+(d.toNat-48))
def fm(s:List UInt8):Nat×Bool:=if s=[42] then(0,true) else if s.length≤4∧s.all dV=true∧s≠[]∧0<val s 0 then(val s 0,true) else(0,false)
def ij(r:List UInt8):Option (Nat×List UInt8):=
 if r.head? =some 42 then some (0,r.drop 1) else
 if(r.takeWhile dV).take 4≠[]∧0<val ((r.takeWhile dV).take 4) 0 then some (val ((r.takeWhile dV).take 4) 0,r.drop ((r.takeWhile dV).take 4).length) else none
def gU(r:List UInt8):Option (Range×List UInt8):=
 match ij r with
 |none=>none
 |some (a,r1)=>if r1.head? =some 58 then(match ij (r1.drop 1) with|none=>none|some (b,r2)=>some (⟨a,b⟩,r2)) else some (⟨a,a⟩,r1)
def h9(p:List UInt8):List UInt8×List UInt8×Bool:=if(58:UInt8)∈p then(p.takeWhile (·≠58),p.drop ((p.takeWhile (·≠58)).length+1),true) else(p,[],false)
def pv(p:List UInt8):List UInt8:=if(h9 p).2.2=true then(h9 p).2.1 else(h9 p).1
def jP(p:List UInt8):Option Range:=if(fm (h9 p).1).2=true∧(fm (pv p)).2=true then some ⟨(fm (h9 p).1).1,(fm (pv p)).1⟩ else none
def jG(t:List UInt8):Prop:=t=[]∨∃c r,t=c::r∧(c=44∨c=58)
theorem rA{t:List UInt8}(h:jG t):t.takeWhile dV=[]∧¬t.head? =some 42:=by
 rcases h with rfl|⟨c,r,rfl,rfl|rfl⟩
 ·simp
 ·simp[dV]
 ·simp[dV]
theorem mI{s t:List UInt8}(h:jG t):(s++t).takeWhile dV=s.takeWhile dV:=by
 induction s with
 |nil=>simp[(rA h).1]
 |cons b s ih=>
  simp only[List.cons_append,List.takeWhile_cons,ih]
theorem qE{s t:List UInt8}(h:jG t)(hs:(fm s).2=true):ij (s++t)=some ((fm s).1,t):=by
 unfold fm at hs ⊢;split at hs
 ·rename_i c;subst c;simp[ij]
 ·split at hs
  ·rename_i c1 c;obtain⟨c2,c3,c4,c5⟩:=c;rw[if_neg c1,if_pos ⟨c2,c3,c4,c5⟩];have hall:s.takeWhile dV=s:=by
    have:=List.takeWhile_append_of_pos (p:=dV) (l₁:=s) (l₂:=[]) (fun b hb=>List.all_eq_true.1 c3 b hb);simpa using this
   have h42:¬(s++t).head? =some 42:=by
    cases s with
    |nil=>exact(c4 rfl).elim
    |cons b s=>
     simp only[List.cons_append,List.head?_cons,aA];rintro rfl;simp[dV] at c3
   have ht:(s.takeWhile dV).take 4=s:=by rw[hall];exact aa c2
   unfold ij;rw[if_neg h42,mI h,ht,if_pos ⟨c4,c5⟩,List.drop_left]
  ·cases hs
theorem tc{s t:List UInt8}(h:jG t)(hs:(fm s).2=false):ij (s++t)=none∨∃n c r,ij (s++t)=some (n,c::r)∧c∈s:=by
 by_cases h42:(s++t).head? =some 42
 ·cases s with
  |nil=>exact((rA h).2 h42).elim
  |cons b s=>
   simp only[List.cons_append,List.head?_cons,aA] at h42;subst h42;cases s with
   |nil=>simp[fm] at hs
   |cons c s=>exact .inr ⟨0,c,s++t,by simp[ij],by simp⟩
 ·by_cases c:(s.takeWhile dV).take 4≠[]∧0<val ((s.takeWhile dV).take 4) 0
  ·right;obtain⟨d,hd⟩:∃d,d=(s.takeWhile dV).take 4:=⟨_,rfl⟩
   rw[←hd] at c;have hpre:d<+:s:=by rw[hd];exact(List.take_prefix _ _).trans (List.takeWhile_prefix _)
   obtain⟨u,hu⟩:=hpre;have hn:ij (s++t)=some (val d 0,u++t):=by
    unfold ij;rw[if_neg h42,mI h,←hd,if_pos c];rw[show s++t=d++(u++t) by rw[←cY,hu],List.drop_left]
   cases u with
   |nil=>
    exfalso;rw[kC] at hu;have h4:d.length≤4:=by rw[hd,dJ];omega
    have hall:s.all dV=true:=by
     rw[←hu,List.all_eq_true];intro b hb;rw[hd] at hb;have:=List.mem_of_mem_take hb;have h2:=List.all_takeWhile (p:=dV) (l:=s);rw[List.all_eq_true] at h2;exact h2 b this
    have:fm s=(val s 0,true):=by
     unfold fm;split
     ·rename_i e;rw[e] at hall;simp[dV] at hall
     ·rw[if_pos ⟨by rw[←hu];exact h4,hall,by rw[←hu];exact c.1,by rw[←hu];exact c.2⟩]
    rw[this] at hs;cases hs
   |cons b u=>exact⟨_,b,u++t,hn,by rw[←hu];simp⟩
  ·left;unfold ij;rw[if_neg h42,mI h,if_neg c]
def xC(t:List UInt8):Prop:=t=[]∨∃r,t=44::r
theorem xC.stop{t:List UInt8}(h:xC t):jG t:=by
 rcases h with h|⟨r,h⟩
 ·exact .inl h
 ·exact .inr ⟨44,r,h,.inl rfl⟩
theorem uo{p:List UInt8}(h:(58:UInt8)∈p):p=(h9 p).1++58::(h9 p).2.1∧¬(58:UInt8)∈(h9 p).1∧(h9 p).2.2=true:=by
 unfold h9;rw[if_pos h];refine⟨?_, ?_,rfl⟩
 ·induction p with
  |nil=>cases h
  |cons b p ih=>
   by_cases c:b=58
   ·subst c;simp
   ·have hb:decide (b≠58)=true:=by simpa using c
    have:=ih (by rcases List.mem_cons.1 h with e|e;·exact(c e.symm).elim
                 ·exact e)
    simp only[List.takeWhile_cons,hb,if_true,ae,List.drop_succ_cons,List.cons_append];rw[←this]
 ·intro hm;have:=List.all_takeWhile (p:=fun b:UInt8=>decide (b≠58)) (l:=p);rw[List.all_eq_true] at this;have:=this _ hm;simp at this
theorem zk{p t:List UInt8}(h:xC t){r:Range}(hp:jP p=some r):gU (p++t)=some (r,t):=by
 unfold jP at hp;split at hp
 ·rename_i c;cases hp;obtain⟨c1,c2⟩:=c;by_cases hc:(58:UInt8)∈p
  ·obtain⟨e,_,e2⟩:=uo hc;have es:pv p=(h9 p).2.1:=by unfold pv;rw[if_pos e2]
   rw[es] at c2 ⊢;have hs:jG (58::((h9 p).2.1++t)):= .inr ⟨58,_,rfl,.inr rfl⟩;have h1:=qE hs c1;have h2:=qE h.stop c2;unfold gU;rw[show p++t=(h9 p).1++58::((h9 p).2.1++t) by rw[←List.cons_append,←cY,←e],h1];simp only[List.head?_cons,if_true,List.drop_succ_cons,List.drop_zero,h2]
  ·have e:h9 p=(p,[],false):=by unfold h9;rw[if_neg hc]
   have es:pv p=p:=by unfold pv;rw[e];rfl
   rw[e] at c1;rw[es,e];have h1:=qE h.stop c1;unfold gU;simp only at h1 ⊢;rw[h1];have:¬t.head? =some 58:=by rcases h with rfl|⟨r,rfl⟩<;>simp
   simp only[this,if_false]
 ·cases hp
theorem zl{p t:List UInt8}(hc44:¬(44:UInt8)∈p)(h:xC t)(hp:jP p=none):gU (p++t)=none∨∃r c u,gU (p++t)=some (r,c::u)∧c≠44:=by
 have ht58:¬t.head? =some 58:=by rcases h with rfl|⟨r,rfl⟩<;>simp
 unfold jP at hp;split at hp
 ·cases hp
 ·rename_i c;by_cases hc:(58:UInt8)∈p
  ·obtain⟨e,e1,e2⟩:=uo hc;have es:pv p=(h9 p).2.1:=by unfold pv;rw[if_pos e2]
   rw[es] at c;have hs:jG (58::((h9 p).2.1++t)):= .inr ⟨58,_,rfl,.inr rfl⟩;have ep:p++t=(h9 p).1++58::((h9 p).2.1++t):=by rw[←List.cons_append,←cY,←e]
   cases f1:(fm (h9 p).1).2 with
   |false=>
    rcases tc hs f1 with q|⟨n,x,r,q,hx⟩
    ·left;unfold gU;rw[ep,q]
    ·right;have hx58:¬x=58:=fun z=>e1 (z▸hx)
     refine⟨⟨n,n⟩,x,r, ?_,fun z=>hc44 (by rw[e];exact List.mem_append_left _ (z▸hx))⟩;unfold gU;rw[ep,q];simp[hx58]
   |true=>
    have f2:(fm (h9 p).2.1).2=false:=by
     cases z:(fm (h9 p).2.1).2 with
     |false=>rfl
     |true=>exact(c ⟨f1,z⟩).elim
    have h1:=qE hs f1;rcases tc h.stop f2 with q|⟨n,x,r,q,hx⟩
    ·left;unfold gU;rw[ep,h1];simp[q]
    ·right;refine⟨⟨(fm (h9 p).1).1,n⟩,x,r, ?_,fun z=>hc44 (by rw[e];exact List.mem_append_right _ (df _ (z▸hx)))⟩;unfold gU;rw[ep,h1];simp[q]
  ·have e:h9 p=(p,[],false):=by unfold h9;rw[if_neg hc]
   have es:pv p=p:=by unfold pv;rw[e];rfl
   rw[es,e] at c;simp only[and_self,Bool.not_eq_true] at c;rcases tc h.stop c with q|⟨n,x,r,q,hx⟩
   ·left;unfold gU;rw[q]
   ·right;have hx58:¬x=58:=fun z=>hc (z▸hx)
    refine⟨⟨n,n⟩,x,r, ?_,fun z=>hc44 (z▸hx)⟩;unfold gU;rw[q];simp[hx58]
def pieces:List UInt8→List (List UInt8)
 |[]=>[[]]
 |b::r=>if b=44 then []::pieces r else match pieces r with|[]=>[[b]]|p::ps=>(b::p)::ps
theorem nq:∀r:List UInt8,∃p t,r=p++t∧¬(44:UInt8)∈p∧((t=[]∧pieces r=[p])∨∃r',t=44::r'∧pieces r=p::pieces r')
 |[]=>⟨[],[],rfl,by simp,.inl ⟨rfl,rfl⟩⟩
 |b::r=>by
  by_cases c:b=44
  ·exact⟨[],b::r,rfl,by simp,.inr ⟨r,by rw[c],by simp[pieces,c]⟩⟩
  ·obtain⟨p,t,h1,h2,h3⟩:=nq r;have hc:¬(44:UInt8)=b:=fun e=>c e.symm
   refine⟨b::p,t,by rw[h1];rfl,by simp[hc,h2], ?_⟩;rcases h3 with⟨h3,h4⟩|⟨r',h3,h4⟩
   ·exact .inl ⟨h3,by simp[pieces,c,h4]⟩
   ·exact .inr ⟨r',h3,by simp[pieces,c,h4]⟩
def kv:List (List UInt8)→List Range→List Range×Bool
 |[],acc=>(acc,true)
 |p::ps,acc=>match jP p with
  |none=>([],false)
  |some r=>if acc.length=8 then([],false) else kv ps (acc++[r])
def bE(l:List UInt8):List Range×Bool:=kv (pieces l) []
def nH:Nat→List UInt8→List Range→List Range×Bool
 |0,_,_=>([],false)
 |d+1,r,acc=>match gU r with
  |none=>([],false)
  |some (x,r1)=>if 8<acc.length+1 then([],false) else if r1=[] then(acc++[x],true) else if r1.head? ≠some 44 then([],false) else nH d (r1.drop 1) (acc++[x])
theorem uq:∀(d:Nat) (r:List UInt8) (acc:List Range),r.length<d→acc.length≤8→nH d r acc=kv (pieces r) acc
 |0,r,acc,h,_=>by omega
 |d+1,r,acc,h,ha=>by
  obtain⟨p,t,h1,h2,h3⟩:=nq r;have het:xC t:=by
   rcases h3 with⟨h3,_⟩|⟨r',h3,_⟩
   ·exact .inl h3
   ·exact .inr ⟨r',h3⟩
  cases hp:jP p with
  |none=>
   have hset:kv (pieces r) acc=([],false):=by
    rcases h3 with⟨_,h4⟩|⟨r',_,h4⟩<;>rw[h4,kv,hp]
   rw[hset,nH,h1];rcases zl h2 het hp with q|⟨x,c,u,q,hc⟩
   ·rw[q]
   ·rw[q];simp only;split;·rfl
    rw[if_neg (by simp),if_pos (by simpa using hc)]
  |some x=>
   have q:=zk het hp;rw[nH,h1,q];simp only;by_cases c8:acc.length=8
   ·rw[if_pos (by omega),←h1];rcases h3 with⟨_,h4⟩|⟨r',_,h4⟩<;>rw[h4,kv,hp]<;>simp[c8]
   ·rw[if_neg (by omega),←h1];rcases h3 with⟨h3,h4⟩|⟨r',h3,h4⟩
    ·rw[if_pos h3,h4,kv,hp];simp[c8,kv]
    ·rw[h3,if_neg (by simp),if_neg (by simp),h4,kv,hp];simp only[if_neg c8,List.drop_succ_cons,List.drop_zero];refine uq d r' _ ?_ (by simp;omega);rw[h1,h3] at h;simp at h;omega
end Mx
namespace Mx
open Go
variable {M:Nat→Option Body}
def byteOf(x:Int):UInt8:=UInt8.ofNat (x%256).toNat
def four(x:Int):List UInt8:=[byteOf (x/16777216),byteOf (x/65536),byteOf (x/256),byteOf x]
def ln(l:List (List UInt8)):List (List T):=l.map fun s=>[S s]
theorem wF(l:List (List UInt8)):(ln l).length=l.length:=by simp[ln]
theorem yU(l:List (List UInt8))(i:Nat)(h:i<(ln l).length):(ln l)[i]=[S (l[i]'(by simpa [ln] using h))]:=by simp[ln]
theorem rC(a b:List (List UInt8)):ln a++ln b=ln (a++b):=by simp[ln]
theorem wE:ln []=[]:=rfl
theorem uU(l:List (List UInt8))(n:Nat):(ln l).take n=ln (l.take n):=by simp[ln]
theorem uV(l:List (List UInt8)):(ln l).all (fun r=>r.all T.scalar)=true:=by
 simp only[ln,List.all_map,List.all_eq_true];intro n _;rfl
attribute [simp] wF yU rC wE uU uV
def BO(k:Nat):List UInt8:=109::oY k []
def marks(k:Nat):Nat→List (List UInt8)
 |0=>[]
 |n+1=>marks k n++[BO (k+n)]
theorem vb(k n:Nat):(marks k n).length=n:=by
 induction n with
 |zero=>rfl
 |succ n ih=>simp[marks,ih]
attribute [simp] vb
end Mx
namespace Mx
open Go
attribute [-simp] b9 step fF eU ia iz dF
variable {M:Nat→Option Body}
theorem rj(d:UInt8):∀(l:List UInt8) (n:Nat),val (l++[d]) n=10*val l n+(d.toNat-48)
 |[],n=>rfl
 |c::l,n=>by rw[List.cons_append,val,rj d l];rfl
theorem mU(b:UInt8):dV b=true↔(48:Int)≤b.toNat∧(b.toNat:Int)≤57:=by
 simp only[dV,aj,decide_eq_true_eq];have h1:((48:UInt8).toNat:Int)=48:=rfl;have h2:((57:UInt8).toNat:Int)=57:=rfl;rw[UInt8.le_iff_toNat_le,UInt8.le_iff_toNat_le];omega
theorem AA:∀(l:List UInt8) (k:Nat),l.length≤k→l.all dV=true→val l 0<10^k:=by
 have key:∀(l:List UInt8) (n:Nat),l.all dV=true→val l n<(n+1)*10^l.length:=by
  intro l
  induction l with
  |nil=>intro n _;simp[val]
  |cons d l ih=>
   intro n h;simp only[List.all_cons,aj] at h;have:=(mU d).1 h.1;have h2:=ih (10*n+(d.toNat-48)) h.2;rw[val,ae,Nat.pow_succ];have h3:10*n+(d.toNat-48)+1≤(n+1)*10:=by omega
   calc val l (10*n+(d.toNat-48))<(10*n+(d.toNat-48)+1)*10^l.length:=h2
    _≤((n+1)*10)*10^l.length:=cJ _ h3
    _=(n+1)*(10^l.length*10):=by rw[Nat.mul_assoc,Nat.mul_comm 10]
 intro l k hl h;have:=key l 0 h;have h2:10^l.length≤10^k:=Nat.pow_le_pow_right (by omega) hl;omega
def ds(r:List UInt8):List UInt8:=(r.takeWhile dV).take 4
theorem tq(r:List UInt8):(ds r).length≤4∧(ds r).length≤r.length:=by
 have:=(List.takeWhile_sublist (l:=r) dV).length_le;unfold ds;rw[dJ];omega
theorem xE(r:List UInt8):(ds r).all dV=true:=by
 rw[List.all_eq_true];intro b hb;have h2:=List.all_takeWhile (p:=dV) (l:=r);rw[List.all_eq_true] at h2;exact h2 b (List.mem_of_mem_take hb)
theorem xD(r:List UInt8):ds r<+:r:=(List.take_prefix _ _).trans (List.takeWhile_prefix _)
theorem BU{r:List UInt8}{j:Nat}(hj:j<(ds r).length):∃h:j<r.length,(ds r)[j]=r[j]∧dV r[j]=true:=by
 have h:=(tq r).2;refine⟨by omega,(xD r).getElem hj, ?_⟩;have h2:=xE r;rw[List.all_eq_true] at h2;have:=h2 _ (ax hj)
 rwa [(xD r).getElem hj] at this
theorem zD:∀(r:List UInt8),(ds r).length<4→∀h:(ds r).length<r.length,dV r[(ds r).length]=false:=by
 have key:∀(r:List UInt8) (h:(r.takeWhile dV).length<r.length),dV r[(r.takeWhile dV).length]=false:=by
  intro r
  induction r with
  |nil=>intro h;simp at h
  |cons b r ih=>
   intro h;have hh:((b::r)[((b::r).takeWhile dV).length]?).map dV=some false:=by
    cases q:dV b with
    |false=>simp[q]
    |true=>
     have e:(b::r).takeWhile dV=b::r.takeWhile dV:=by simp[q]
     rw[e] at h ⊢;simp only[ae] at h ⊢;have h':(r.takeWhile dV).length<r.length:=by omega
     rw[List.getElem?_cons_succ,cg h'];simp[ih h']
   rw[cg h] at hh;simpa using hh
 intro r h4 h;have e:ds r=r.takeWhile dV:=by
  unfold ds at h4 ⊢;rw[dJ] at h4;exact aa (by omega)
 have h2:(r.takeWhile dV).length<r.length:=by rw[←e];exact h
 have:=key r h2;have e2:(ds r).length=(r.takeWhile dV).length:=by rw[e]
 simpa [e2] using this
def vh(l:List UInt8)(a:Nat)(j:Nat)(x:Nat):St:={t:=[(0,.c (S l)),(1,.c (I a)),(7,.c (I (val ((ds (l.drop a)).take j) 0))),(8,.c (I (a+j:Nat)))],o:=[],n:=x}
def w8(l:List UInt8)(a:Nat)(x:Nat):St:={t:=[(0,.c (S l)),(1,.c (I a)),(7,.c (I (val (ds (l.drop a)) 0))),(8,.c (I (a+(ds (l.drop a)).length:Nat))),(43,.c (.bool false))],o:=[],n:=x}
theorem w7(cf:bH)(k:Nat)(l:List UInt8)(hl:l.length≤1048576)(a:Nat)(ha:a≤l.length):
  ∃g:Nat→Nat,∀x,dP (b9 cf k aT.l0) ((ds (l.drop a)).length+1) (vh l a 0 x)=some (.exit 0,w8 l a (g x)):=by
 have hd:=tq (l.drop a);rw[List.length_drop] at hd;have e4:IntKind.i64.wrap ((a:Int)+4)=(a:Int)+4:=wrap_i64 (by omega) (by omega);refine e_ (f:=b9 cf k aT.l0) (ds (l.drop a)).length (vh l a) 0 (w8 l a) (fun j hj x=> ?_) (fun x=> ?_)
 ·obtain⟨h1,h2,h3⟩:=BU hj;rw[List.length_drop] at h1;have h1':a+j<l.length:=by omega
  have hg:(l.drop a)[j]'(by rw[List.length_drop];omega)=l[a+j]:=by rw[List.getElem_drop]
  have hv:val ((ds (l.drop a)).take j) 0<10^5:=AA _ 5 (by rw[dJ];omega) (by
   rw[List.all_eq_true];intro b hb;have:=xE (l.drop a);rw[List.all_eq_true] at this;exact this b (List.mem_of_mem_take hb))
  obtain⟨b,hb⟩:∃b,b=l[a+j]:=⟨_,rfl⟩
  have hget:∀hh:a+j<l.length,l[a+j]'hh=b:=fun _=>hb.symm
  have hdig:dV b=true:=by rw[hb,←hg];exact h3
  obtain⟨d1,d2⟩:=(mU b).1 hdig;have ht:(ds (l.drop a)).take (j+1)=(ds (l.drop a)).take j++[b]:=by
   rw[List.take_succ_eq_append_getElem hj,h2,hg,←hb]
  obtain⟨z,hz⟩:∃z:Nat,z=b.toNat:=⟨_,rfl⟩
  have hz2:(b.toNat:Int)=z:=by omega
  rw[hz2] at d1 d2;have e6:((val ((ds (l.drop a)).take (j+1)) 0:Nat):Int)=10*(val ((ds (l.drop a)).take j) 0:Int)+(z:Int)-48:=by
   rw[ht,rj];omega
  have e7:((a+(j+1):Nat):Int)=((a+j:Nat):Int)+1:=by omega
  simp only[vh,bP,e6,e7];have hj4:j<4:=by omega
  generalize val ((ds (l.drop a)).take j) 0=n at*;have k4:((a+j:Nat):Int)<(a:Int)+4:=by omega
  have k1:((a+j:Nat):Int)<l.length:=by omega
  generalize hm:a+j=m at*;have e1:=dS (i:=m) (by omega);have e2:IntKind.i64.wrap (10*(n:Int))=10*(n:Int):=wrap_i64 (by omega) (by omega);have e3:IntKind.i64.wrap (z:Int)=(z:Int):=wrap_i64 (by omega) (by omega);have e5:IntKind.i64.wrap (10*(n:Int)+(z:Int))=10*(n:Int)+(z:Int):=wrap_i64 (by omega) (by omega);have e8:IntKind.i64.wrap (10*(n:Int)+(z:Int)-48)=10*(n:Int)+(z:Int)-48:=wrap_i64 (by omega) (by omega);simp (maxSteps:=9^9) [aT.l0,ar,aa,setAt,ak,h1',k1,k4,hget,hz2,d1,d2,e1,e2,e3,e4,e5,e8]
 ·simp only[vh,w8,List.take_length];have hst:=zD (l.drop a);generalize val (ds (l.drop a)) 0=n at*;generalize hj:(ds (l.drop a)).length=j at*;by_cases c1:a+j<l.length
  ·have k1:((a+j:Nat):Int)<l.length:=by omega
   by_cases c4:j<4
   ·have hd:=hst c4 (by rw[List.length_drop];omega);rw[List.getElem_drop] at hd;obtain⟨b,hb⟩:∃b,b=l[a+j]:=⟨_,rfl⟩
    have hget:∀hh:a+j<l.length,l[a+j]'hh=b:=fun _=>hb.symm
    rw[←hb] at hd;generalize hm:a+j=m at*;by_cases q:(48:Int)≤b.toNat
    ·have q2:¬(b.toNat:Int)≤57:=fun z=>by
      have:=(mU b).2 ⟨q,z⟩;rw[this] at hd;cases hd
     simp (maxSteps:=9^9) [aT.l0,ar,aa,setAt,ak,c1,k1,hget,q,q2,e4]
    ·simp (maxSteps:=9^9) [aT.l0,ar,aa,setAt,ak,c1,k1,hget,q,e4]
   ·have j4:j=4:=by omega
    have k4:¬((a+j:Nat):Int)<(a:Int)+4:=by omega
    obtain⟨b,hb⟩:∃b,b=l[a+j]:=⟨_,rfl⟩
    have hget:∀hh:a+j<l.length,l[a+j]'hh=b:=fun _=>hb.symm
    generalize hm:a+j=m at*;by_cases q:(48:Int)≤b.toNat
    ·by_cases q2:(b.toNat:Int)≤57
     ·simp (maxSteps:=9^9) [aT.l0,ar,aa,setAt,ak,c1,k1,hget,q,q2,e4,k4]
     ·simp (maxSteps:=9^9) [aT.l0,ar,aa,setAt,ak,c1,k1,hget,q,q2,e4,k4]
    ·simp (maxSteps:=9^9) [aT.l0,ar,aa,setAt,ak,c1,k1,hget,q,e4,k4]
  ·have k1:¬((a+j:Nat):Int)<l.length:=by omega
   generalize hm:a+j=m at*;simp (maxSteps:=9^9) [aT.l0,ar,aa,setAt,ak,k1]
theorem aT.aE(h:aT.k M)(l:List UInt8)(hl:l.length≤1048576)(a:Nat)(ha:a≤l.length):
  (∀n r,ij (l.drop a)=some (n,r)→∃k:Nat,run M 326 [.c (S l),.c (I a)] []=some (.hC [.c (I n),.c (I k),.c (.bool true)],[])∧a<k∧k≤l.length∧r=l.drop k)∧
  (ij (l.drop a)=none→∃x y:Int,run M 326 [.c (S l),.c (I a)] []=some (.hC [.c (I x),.c (I y),.c (.bool false)],[])):=by
 obtain⟨g,hr⟩:=w7 (run M) 6 l hl a ha;have hd:=tq (l.drop a);rw[List.length_drop] at hd;have e1:=dS (i:=a) (by omega);have hloop:∀x,dP (b9 (run M) 6 aT.l0) 6 (vh l a 0 x)=some (.exit 0,w8 l a (g x)):=fun x=>gE (hr x) (by omega)
 have e0:((0:Nat):Int)=0:=rfl;simp only[vh,w8,List.take_zero,val,Nat.add_zero,e0] at hloop;have eds:ds (l.drop a)=((l.drop a).takeWhile dV).take 4:=rfl;unfold ij;rw[←eds];have rest:(¬∃h:a<l.length,l[a]=42)→
   run M 326 [.c (S l),.c (I a)] []=some (.hC [.c (I (val (ds (l.drop a)) 0)),.c (I ((a+(ds (l.drop a)).length:Nat):Int)),.c (.bool (decide (ds (l.drop a)≠[]∧0<val (ds (l.drop a)) 0)))],[]):=by
  intro hn;refine aq (b:=aT.m) h ⟨6, ?_⟩;have hne:decide (ds (l.drop a)≠[]∧0<val (ds (l.drop a)) 0)=(decide ((a:Int)<((a+(ds (l.drop a)).length:Nat):Int))&&decide ((0:Int)<(val (ds (l.drop a)) 0:Nat))):=by
   cases hq:ds (l.drop a) with
   |nil=>simp
   |cons x y=>
    rw[decide_eq_true (p:=(a:Int)<_) (by simp only[ae];omega),Bool.true_and];by_cases z:0<val (x::y) 0
    ·rw[decide_eq_true ⟨by simp,z⟩,decide_eq_true (by omega)]
    ·rw[decide_eq_false (fun w=>z w.2),decide_eq_false (by omega)]
  rw[hne];generalize val (ds (l.drop a)) 0=n at*;generalize a+(ds (l.drop a)).length=m at*;by_cases c1:a<l.length
  ·have c2:(a:Int)<l.length:=by omega
   have c3:¬(l[a].toNat:Int)=42:=fun z=>hn ⟨c1,(n8 _ 42).1 z⟩
   obtain⟨b,hb⟩:∃b,b=l[a]:=⟨_,rfl⟩
   have hget:∀hh:a<l.length,l[a]'hh=b:=fun _=>hb.symm
   rw[←hb] at c3;by_cases c4:(a:Int)<(m:Int)
   ·simp (maxSteps:=9^9) [bB,aT.m,aT.b,ar,aa,setAt,ak,hloop,c1,c2,hget,c3,c4]
   ·simp (maxSteps:=9^9) [bB,aT.m,aT.b,ar,aa,setAt,ak,hloop,c1,c2,hget,c3,c4]
  ·have c2:¬(a:Int)<l.length:=by omega
   by_cases c4:(a:Int)<(m:Int)
   ·simp (maxSteps:=9^9) [bB,aT.m,aT.b,ar,aa,setAt,ak,hloop,c2,c4]
   ·simp (maxSteps:=9^9) [bB,aT.m,aT.b,ar,aa,setAt,ak,hloop,c2,c4]
 by_cases hs:∃h:a<l.length,l[a]=42
 ·obtain⟨c1,c3⟩:=hs;have hh:(l.drop a).head? =some 42:=by rw[cB c1,c3];rfl
  rw[if_pos hh];refine⟨fun n r e=> ?_,fun e=>by cases e⟩;cases e;refine⟨a+1,aq (b:=aT.m) h ⟨0, ?_⟩,by omega,by omega,by rw[List.drop_drop]⟩;have c2:(a:Int)<l.length:=by omega
  have hget:∀hh:a<l.length,l[a]'hh=42:=fun _=>c3
  have e7:((a+1:Nat):Int)=(a:Int)+1:=by omega
  rw[e7];simp (maxSteps:=9^9) [bB,aT.m,aT.b,ar,aa,setAt,ak,c1,c2,hget,e1]
 ·have hh:¬(l.drop a).head? =some 42:=by
   by_cases c1:a<l.length
   ·rw[cB c1];intro e;simp only[List.head?_cons,aA] at e;exact hs ⟨c1,e⟩
   ·rw[dQ (by omega)];simp
  have h1:=rest hs;rw[if_neg hh];by_cases c:ds (l.drop a)≠[]∧0<val (ds (l.drop a)) 0
  ·rw[if_pos c];rw[decide_eq_true c] at h1;refine⟨fun n r e=> ?_,fun e=>by cases e⟩;cases e;have:0<(ds (l.drop a)).length:=by cases hq:ds (l.drop a) with|nil=>exact(c.1 hq).elim|cons=>simp
   exact⟨_,h1,by omega,by omega,by rw[List.drop_drop]⟩
  ·rw[if_neg c];rw[decide_eq_false c] at h1;exact⟨fun n r e=>(by cases e),fun _=>⟨_,_,h1⟩⟩
structure Cl where
 d:Nat
 a:Nat
 acc:List Range
 w:Nat
 v:Nat
 n:Nat
def vB(s:Cl):List (Nat×Ob):=[(14,⟨s.w,2,true,false,[]⟩),(15,⟨s.v,2,true,false,s.acc.map fu⟩)]
def nV(l:List UInt8)(s:Cl):St:={t:=[(0,.c (S l)),(4,.c (.row 14 s.w 0 0)),(5,.c (.row 15 s.v 0 s.acc.length)),(6,.c (I s.a))],o:=vB s,n:=s.n}
def p9(acc:List Range)(w v n:Nat):St:={t:=[(2,.c (.row 15 v 0 acc.length)),(3,.c (.bool true))],o:=[(14,⟨w,2,true,false,[]⟩),(15,⟨v,2,true,false,acc.map fu⟩)],n:=n}
def qO(w v n:Nat)(ra:List (List T)):St:={t:=[(2,.c (.row 14 w 0 0)),(3,.c (.bool false))],o:=[(14,⟨w,2,true,false,[]⟩),(15,⟨v,2,true,false,ra⟩)],n:=n}
structure Cm (l:List UInt8) (q:List Range×Bool) (s:Cl):Prop where
 a:s.a≤l.length
 d:l.length-s.a<s.d
 acc:s.acc.length≤8
 q:nH s.d (l.drop s.a) s.acc=q
def CL(q:List Range×Bool)(r:Out×St):Prop:=(∃acc w v n,r=(.ret,p9 acc w v n)∧q=(acc,true)∧acc.length≤8)∨(∃w v n ra,r=(.ret,qO w v n ra)∧q=([],false))
theorem zF(kn:aT.k M)(k:Nat)(l:List UInt8)(hl:l.length≤1048576)(q:List Range×Bool)(s:Cl)(hs:Cm l q s):
  (∃s',b9 (run M) k aS.l0 (nV l s)=some (.normal,nV l s')∧Cm l q s'∧s'.d<s.d)∨
   (∃r,b9 (run M) k aS.l0 (nV l s)=some r∧r.1≠.normal∧CL q r):=by
 obtain⟨d,a,acc,w,v,n⟩:=s;obtain⟨h1,h2,h3,hq⟩:=hs;simp only at h1 h2 h3 hq;cases d with
 |zero=>omega
 |succ d=>
 rw[nH] at hq;obtain⟨n1,n2⟩:=aT.aE kn l hl a h1;have er:(acc.map fu).length=acc.length:=by simp
 have et:(acc.map fu).take acc.length=acc.map fu:=aa (by omega);have e5:acc.length+1≤4294967296:=by omega
 have no:q=([],false)→(∃v' n' ra,b9 (run M) k aS.l0 (nV l ⟨d+1,a,acc,w,v,n⟩)=some (.ret,qO w v' n' ra))→(∃r,b9 (run M) k aS.l0 (nV l ⟨d+1,a,acc,w,v,n⟩)=some r∧r.1≠.normal∧CL q r):=by
  rintro e ⟨v',n',ra,hh⟩;exact⟨_,hh,by simp,.inr ⟨_,_,_,_,rfl,e⟩⟩
 unfold gU at hq;cases hn:ij (l.drop a) with
 |none=>
  right;rw[hn] at hq;obtain⟨x,y,g1⟩:=n2 hn;refine no hq.symm ?_;simp only[nV,vB,qO];refine⟨v, ?_⟩;generalize acc.map fu=ra at*;simp (maxSteps:=9^9) [aS.l0,ar,aa,setAt,ak,g1]
 |some xr=>
  obtain⟨x,r1⟩:=xr;rw[hn] at hq;obtain⟨k1,g1,j1,j2,hr1⟩:=n1 x r1 hn;subst hr1;simp only at hq;have behind:∀(y:Range) (k2:Nat),k2≤l.length→a<k2→
    (if 8<acc.length+1 then([],false) else if l.drop k2=[] then(acc++[y],true) else if(l.drop k2).head? ≠some 44 then([],false) else nH d ((l.drop k2).drop 1) (acc++[y]))=q→
    (8<acc.length+1∧q=([],false))∨(¬8<acc.length+1∧k2=l.length∧q=(acc++[y],true))∨
     (¬8<acc.length+1∧∃h:k2<l.length,(¬l[k2]=44∧q=([],false))∨(l[k2]=44∧Cm l q ⟨d,k2+1,acc++[y],w,0,0⟩)):=by
   intro y k2 hk hak e;by_cases c8:8<acc.length+1
   ·rw[if_pos c8] at e;exact .inl ⟨c8,e.symm⟩
   rw[if_neg c8] at e;by_cases ck:k2=l.length
   ·rw[if_pos (by rw[ck];exact List.drop_length)] at e;exact .inr (.inl ⟨c8,ck,e.symm⟩)
   have hlt:k2<l.length:=by omega
   have hdr:=cB hlt;obtain⟨tl,htl⟩:∃tl,tl=l.drop (k2+1):=⟨_,rfl⟩
   rw[←htl] at hdr;rw[hdr,if_neg (List.cons_ne_nil _ _),List.head?_cons,List.drop_succ_cons,List.drop_zero] at e;right;right;refine⟨c8,hlt, ?_⟩;by_cases c44:l[k2]=44
   ·right;rw[if_neg (fun z=>z (by rw[c44]))] at e;exact⟨c44,by simp only;omega,by simp only;omega,by simp;omega,by simp only;rw[←htl];exact e⟩
   ·left;rw[if_pos (fun z=>c44 (Option.some.inj z))] at e;exact⟨c44,e.symm⟩
  have xk1:(k1:Int)≤l.length:=by omega
  by_cases hcol:∃h:k1<l.length,l[k1]=58
  ·obtain⟨c1,c58⟩:=hcol;have hh:(l.drop k1).head? =some 58:=by rw[cB c1,c58];rfl
   rw[if_pos hh,List.drop_drop] at hq;have c2:(k1:Int)<l.length:=by omega
   have hget:∀hh:k1<l.length,l[k1]'hh=58:=fun _=>c58
   have e1:IntKind.i64.wrap ((k1:Int)+1)=((k1+1:Nat):Int):=wrap_i64 (by omega) (by omega);obtain⟨m1,m2⟩:=aT.aE kn l hl (k1+1) (by omega);cases hm:ij (l.drop (k1+1)) with
   |none=>
    right;rw[hm] at hq;obtain⟨x',y',g2⟩:=m2 hm;refine no hq.symm ?_;simp only[nV,vB,qO];refine⟨v, ?_⟩;generalize acc.map fu=ra at*;generalize hk11:k1+1=k11 at*;simp (maxSteps:=9^9) [aS.l0,ar,aa,setAt,ak,g1,g2,c1,c2,hget,e1]
   |some yr=>
    obtain⟨y,r2⟩:=yr;rw[hm] at hq;obtain⟨k2,g2,i1,i2,hr2⟩:=m1 y r2 hm;subst hr2;simp only at hq;have hb:=behind ⟨(x:Int),(y:Int)⟩ k2 i2 (by omega) hq;generalize hk11:k1+1=k11 at*;rcases hb with⟨b1,b2⟩|⟨b1,b2,b3⟩|⟨b1,b2,⟨b3,b4⟩|⟨b3,b4⟩⟩
    ·right;have b5:(8:Int)<acc.length+1:=by omega
     refine no b2 ?_;simp only[nV,vB,qO]
     try simp only[fu]
     generalize acc.map fu=ra at*;simp (maxSteps:=9^9) [aS.l0,ar,aa,setAt,ak,g1,g2,c1,c2,hget,e1,er,et,e5,b5]
    ·right;have b5:¬(8:Int)<acc.length+1:=by omega
     have b6:(k2:Int)=l.length:=by omega
     suffices hh:∃v' n',b9 (run M) k aS.l0 (nV l ⟨d+1,a,acc,w,v,n⟩)=some (.ret,p9 (acc++[⟨(x:Int),(y:Int)⟩]) w v' n') by
      obtain⟨v',n',hh⟩:=hh;exact⟨_,hh,by simp,.inl ⟨_,_,_,_,rfl,b3,by simp;omega⟩⟩
     simp only[nV,vB,p9,dG,aL,bI,aN,ae,ai]
     try simp only[fu]
     generalize acc.map fu=ra at*;simp (maxSteps:=9^9) [aS.l0,ar,aa,setAt,ak,g1,g2,c1,c2,hget,e1,er,et,e5,b5,b6]
    ·right;have b5:¬(8:Int)<acc.length+1:=by omega
     have b6:¬(k2:Int)=l.length:=by omega
     obtain⟨z,hz⟩:∃z,z=l[k2]:=⟨_,rfl⟩
     have hget2:∀hh:k2<l.length,l[k2]'hh=z:=fun _=>hz.symm
     rw[←hz] at b3;have b7:¬(z.toNat:Int)=44:=fun h=>b3 ((n8 _ 44).1 h)
     refine no b4 ?_;simp only[nV,vB,qO]
     try simp only[fu]
     generalize acc.map fu=ra at*;simp (maxSteps:=9^9) [aS.l0,ar,aa,setAt,ak,g1,g2,c1,c2,hget,hget2,b2,e1,er,et,e5,b5,b6,b7]
    ·left;have b5:¬(8:Int)<acc.length+1:=by omega
     have b6:¬(k2:Int)=l.length:=by omega
     have hget2:∀hh:k2<l.length,l[k2]'hh=44:=fun _=>b3
     have e3:=dS (i:=k2) (by omega);suffices hh:∃v' n',b9 (run M) k aS.l0 (nV l ⟨d+1,a,acc,w,v,n⟩)=some (.normal,nV l ⟨d,k2+1,acc++[⟨(x:Int),(y:Int)⟩],w,v',n'⟩) by
      obtain⟨v',n',hh⟩:=hh;exact⟨_,hh,⟨b4.a,b4.d,b4.acc,b4.q⟩,Nat.lt_succ_self _⟩
     simp only[nV,vB,dG,aL,bI,aN,ae,ai]
     try simp only[fu]
     generalize acc.map fu=ra at*;simp (maxSteps:=9^9) [aS.l0,ar,aa,setAt,ak,g1,g2,c1,c2,hget,hget2,b2,e1,e3,er,et,e5,b5,b6]
  ·have hh:¬(l.drop k1).head? =some 58:=by
    by_cases c1:k1<l.length
    ·rw[cB c1];intro e;simp only[List.head?_cons,aA] at e;exact hcol ⟨c1,e⟩
    ·rw[dQ (by omega)];simp
   rw[if_neg hh] at hq;simp only at hq;have hb:=behind ⟨(x:Int),(x:Int)⟩ k1 j2 j1 hq;rcases hb with⟨b1,b2⟩|⟨b1,b2,b3⟩|⟨b1,b2,⟨b3,b4⟩|⟨b3,b4⟩⟩
   ·right;have b5:(8:Int)<acc.length+1:=by omega
    refine no b2 ?_;simp only[nV,vB,qO]
    try simp only[fu]
    generalize acc.map fu=ra at*;by_cases c1:k1<l.length
    ·have c2:(k1:Int)<l.length:=by omega
     obtain⟨z,hz⟩:∃z,z=l[k1]:=⟨_,rfl⟩
     have hget:∀hh:k1<l.length,l[k1]'hh=z:=fun _=>hz.symm
     have c58:¬(z.toNat:Int)=58:=fun h=>hcol ⟨c1,by rw[←hz];exact(n8 _ 58).1 h⟩
     simp (maxSteps:=9^9) [aS.l0,ar,aa,setAt,ak,g1,c1,c2,hget,c58,er,et,e5,b5]
    ·have c2:¬(k1:Int)<l.length:=by omega
     simp (maxSteps:=9^9) [aS.l0,ar,aa,setAt,ak,g1,c2,er,et,e5,b5]
   ·right;have b5:¬(8:Int)<acc.length+1:=by omega
    have b6:(k1:Int)=l.length:=by omega
    have c2:¬(k1:Int)<l.length:=by omega
    suffices hh:∃v' n',b9 (run M) k aS.l0 (nV l ⟨d+1,a,acc,w,v,n⟩)=some (.ret,p9 (acc++[⟨(x:Int),(x:Int)⟩]) w v' n') by
     obtain⟨v',n',hh⟩:=hh;exact⟨_,hh,by simp,.inl ⟨_,_,_,_,rfl,b3,by simp;omega⟩⟩
    simp only[nV,vB,p9,dG,aL,bI,aN,ae,ai]
    try simp only[fu]
    generalize acc.map fu=ra at*;subst b2;have c3:¬(l.length:Int)<l.length:=by omega
    simp (maxSteps:=9^9) [aS.l0,ar,aa,setAt,ak,g1,er,et,e5,b5]
   ·right;have b5:¬(8:Int)<acc.length+1:=by omega
    have b6:¬(k1:Int)=l.length:=by omega
    have c2:(k1:Int)<l.length:=by omega
    obtain⟨z,hz⟩:∃z,z=l[k1]:=⟨_,rfl⟩
    have hget:∀hh:k1<l.length,l[k1]'hh=z:=fun _=>hz.symm
    have c58:¬(z.toNat:Int)=58:=fun h=>hcol ⟨b2,by rw[←hz];exact(n8 _ 58).1 h⟩
    rw[←hz] at b3;have b7:¬(z.toNat:Int)=44:=fun h=>b3 ((n8 _ 44).1 h)
    refine no b4 ?_;simp only[nV,vB,qO]
    try simp only[fu]
    generalize acc.map fu=ra at*;simp (maxSteps:=9^9) [aS.l0,ar,aa,setAt,ak,g1,b2,c2,hget,c58,er,et,e5,b5,b6,b7]
   ·left;have b5:¬(8:Int)<acc.length+1:=by omega
    have b6:¬(k1:Int)=l.length:=by omega
    have c2:(k1:Int)<l.length:=by omega
    have hget:∀hh:k1<l.length,l[k1]'hh=44:=fun _=>b3
    have e3:=dS (i:=k1) (by omega);suffices hh:∃v' n',b9 (run M) k aS.l0 (nV l ⟨d+1,a,acc,w,v,n⟩)=some (.normal,nV l ⟨d,k1+1,acc++[⟨(x:Int),(x:Int)⟩],w,v',n'⟩) by
     obtain⟨v',n',hh⟩:=hh;exact⟨_,hh,⟨b4.a,b4.d,b4.acc,b4.q⟩,Nat.lt_succ_self _⟩
    simp only[nV,vB,dG,aL,bI,aN,ae,ai]
    try simp only[fu]
    generalize acc.map fu=ra at*;simp (maxSteps:=9^9) [aS.l0,ar,aa,setAt,ak,g1,b2,c2,hget,e3,er,et,e5,b5,b6]
theorem aS.aE(h:aS.k M)(l:List UInt8)(hl:l.length≤1048576):
  run M 322 [.c (S l)] []=some (.hC [.c (.sl true 2 ((bE l).1.map fu)),.c (.bool (bE l).2)],[]):=by
 obtain⟨h0,kn⟩:=h;have hcs:nH (l.length+1) l []=bE l:=uq _ l [] (Nat.lt_succ_self _) (by simp);obtain⟨r,hr,hp⟩:=fc (f:=b9 (run M) (l.length+2) aS.l0) (nV l) (Cm l (bE l)) (fun s=>s.d) (CL (bE l))
  (fun s hs=>zF kn _ l hl _ s hs) (l.length+2) ⟨l.length+1,0,[],2000032,2000064,2000112⟩ ⟨Nat.zero_le _,by simp only;omega,by simp,by simpa using hcs⟩ (by simp only;omega)
 refine aq (b:=aS.m) h0 ⟨l.length+2, ?_⟩;have e0:((0:Nat):Int)=0:=rfl;rcases hp with⟨acc,w,v,n,rfl,hq,h8⟩|⟨w,v,n,ra,rfl,hq⟩
 ·rw[hq];have er:(acc.map fu).length=acc.length:=by simp
  have et:(acc.map fu).take acc.length=acc.map fu:=aa (by omega);simp only[nV,vB,p9,bI,ai,e0] at hr ⊢;generalize acc.map fu=rt at*;simp (maxSteps:=9^9) [bB,aS.m,aS.b,ar,aa,setAt,ak,hr,er,et]
 ·rw[hq];simp only[nV,vB,qO,bI,ai,e0] at hr ⊢;simp (maxSteps:=9^9) [bB,aS.m,aS.b,ar,aa,setAt,ak,hr]
theorem l_(l:List Range)(n:Int):∀(d:Nat) (i:Int),1≤i→∀v∈eH l n d i,1≤v∧v≤n
 |0,_,_,v,h=>by simp[eH] at h
 |d+1,i,hi,v,h=>by
  simp only[eH] at h;split at h
  ·rename_i c;rcases List.mem_append.1 h with q|q
   ·split at q
    ·rw[List.mem_singleton.1 q];exact⟨hi,c.1⟩
    ·cases q
   ·exact l_ l n d (i+1) (by omega) v q
  ·cases h
theorem jQ{l:List Range}{n:Int}:∀v∈ff l n,1≤v∧v≤n:=l_ l n 100 1 (by omega)
theorem jR(l:List Range)(n:Int):(ff l n).length≤100:=ma l n 100 1
theorem gX{a b:List UInt8}(h:a.length+b.length≤1000000):∃c:List UInt8,eN .add (bs a) (bs b)=some (S c)∧c.length=a.length+b.length:=⟨a++b,ak a b (by omega),by simp⟩
theorem bV{a:List UInt8}(l:List UInt8)(h:a.length+l.length≤1000000):∃c:List UInt8,eN .add (bs a) ⟨l.toArray⟩=some (S c)∧c.length=a.length+l.length:=⟨a++l,ak a l (by omega),by simp⟩
structure BoxM (b:cX):Prop where
 len:b.af.length≤10
 ok:∀m∈b.af,gp m=true
theorem qn{x:List UInt8}(h:x.length≤60):(gO ⟨2,x⟩).length≤200:=by
 unfold gO;have h1:=lF x;have h2:=fX (n:=(x.length:Int)) (by omega) (by omega);split
 ·simp only;omega
 ·split
  ·simp only;omega
  ·simp only[aN,ae,ai];omega
def nP:cX:=⟨0,[],0,0,0,[],[]⟩
theorem o4:BoxM nP:=⟨by simp[nP],by simp[nP]⟩
structure B7 where
 i:Nat
 t:List UInt8
 v:Nat
 n:Nat
def Bl(view pk:List Int)(s:B7):List (Nat×V):=[(1,.c (ints view)),(2,.c (ints pk)),(3,.c (.ptr 3 s.v 0 0)),(7,.c (S s.t)),(8,.c (I s.i))]
def Bm(b:cX)(s:B7):List (Nat×Ob):=[(3,⟨s.v,7,true,true,[ah b]⟩)]
def mX(b:cX)(view pk:List Int)(s:B7):St:={t:=Bl view pk s,o:=Bm b s,n:=s.n}
def xl(b:cX)(view pk:List Int)(s:B7):St:={t:=Bl view pk s++[(14,.c (.bool false))],o:=Bm b s,n:=s.n}
structure C4 (M:Nat→Option Body):Prop where
 at_:aX.k M
 dec:a0.k M
 num:cU.k M
 fl:bL.k M
 tt:cu.k M
theorem zq(K:C4 M)(k:Nat)(b:cX)(hb:BoxM b)(view pk:List Int)(hv:view.length≤1000)(hp:∀v∈pk,1≤v∧v≤view.length)(hpl:pk.length≤100)(s:B7)(h:s.i≤pk.length∧s.t.length≤400*s.i):
  (∃s',b9 (run M) k bF.l0 (mX b view pk s)=some (.normal,mX b view pk s')∧(s'.i≤pk.length∧s'.t.length≤400*s'.i)∧pk.length-s'.i<pk.length-s.i)∨
   (∃r,b9 (run M) k bF.l0 (mX b view pk s)=some r∧r.1≠.normal∧∃s',r=(.exit 0,xl b view pk s')∧s'.t.length≤40000):=by
 obtain⟨i,t,v,n⟩:=s;obtain⟨hi,ht⟩:=h;simp only at hi ht;have pl:(au pk).length=pk.length:=by simp
 have vl:(au view).length=view.length:=by simp
 by_cases c:i<pk.length
 ·left;obtain⟨h1,h2⟩:=hp _ (ax c);have a1:∀hh,(au pk)[i]'hh=[I pk[i]]:=by intro hh;simp
  obtain⟨z,hz⟩:∃z:Nat,pk[i]=(z:Int)+1:=⟨(pk[i]-1).toNat,by omega⟩
  have hzl:z<view.length:=by omega
  have a2:∀hh,(au view)[z]'hh=[I view[z]]:=by intro hh;simp
  have e1:IntKind.i64.wrap (z:Int)=(z:Int):=wrap_i64 (by omega) (by omega);have c1:(i:Int)<pk.length:=by omega
  have e5:=dS (i:=i) (by omega);rw[hz] at a1;have g1:=aX.aE K.at_ b view[z] (by have:=hb.len;omega);cases q:dY b.af view[z] with
  |none=>
   rw[q] at g1;have hh:∃n',b9 (run M) k bF.l0 (mX b view pk ⟨i,t,v,n⟩)=some (.normal,mX b view pk ⟨i+1,t,v,n'⟩):=by
    simp only[mX,Bl,Bm];simp only[ah,af,ints,di] at g1 ⊢;generalize au view=rv at*;generalize au pk=rp at*;generalize view[z]=g at*;generalize b.af.map aD=rm at*;simp (maxSteps:=9^9) [bF.l0,ar,aa,setAt,ak,g1,a1,a2,pl,vl,c,c1,e1,e5,hzl]
   obtain⟨n',hh⟩:=hh;exact⟨_,hh,⟨c,by simp only;omega⟩,by simp only;omega⟩
  |some y=>
   rw[q] at g1;obtain⟨hy,_,_⟩:=fM q;obtain⟨m1,m2,m3,m4,m5⟩:=hJ (hb.ok _ (ax hy));have a3:∀hh,(b.af.map aD)[y]'hh=aD b.af[y]:=by intro hh;simp
   have ml:(b.af.map aD).length=b.af.length:=by simp
   have g2:=a0.aE K.dec ((z:Int)+1) (by omega) (by omega);have d2:=fX (n:=(z:Int)+1) (by omega) (by omega);obtain⟨u,hu,g3⟩:=cU.aE K.num b.af[y].uid (by unfold isVar at m2;omega);obtain⟨f,hf,g4⟩:=bL.aE K.fl b.af[y].flags (by omega);have g5:=a0.aE K.dec f hf.1 hf.2;have d5:=fX (n:=f) hf.1 hf.2;have g6:=cu.aE K.tt ⟨2,b.af[y].text⟩ (by simp only;omega);have d6:=qn m5;have hy0:¬(y:Int)<0:=by omega
   have hh:∃t' n',t'.length≤400*(i+1)∧b9 (run M) k bF.l0 (mX b view pk ⟨i,t,v,n⟩)=some (.normal,mX b view pk ⟨i+1,t',v,n'⟩):=by
    generalize dec ((z:Int)+1)=t2 at*;generalize dec f=t5 at*;generalize gO ⟨2,b.af[y].text⟩=t6 at*;obtain⟨q1,s1,l1⟩:=bV (a:=t) [42,32] (by simp only[ae,ai];omega);obtain⟨q2,s2,l2⟩:=gX (a:=q1) (b:=t2) (by simp only[ae,ai] at l1;omega);obtain⟨q3,s3,l3⟩:=bV (a:=q2) [32,70,69,84,67,72,32] (by simp only[ae,ai] at l1 ⊢;omega);obtain⟨q4,s4,l4⟩:=gX (a:=q3) (b:=u) (by simp only[ae,ai] at l1 l3;omega);obtain⟨q5,s5,l5⟩:=bV (a:=q4) [32] (by simp only[ae,ai] at l1 l3 ⊢;omega);obtain⟨q6,s6,l6⟩:=gX (a:=q5) (b:=t5) (by simp only[ae,ai] at l1 l3 l5;omega);obtain⟨q7,s7,l7⟩:=bV (a:=q6) [32] (by simp only[ae,ai] at l1 l3 l5 ⊢;omega);obtain⟨q8,s8,l8⟩:=gX (a:=q7) (b:=t6) (by simp only[ae,ai] at l1 l3 l5 l7;omega);obtain⟨q9,s9,l9⟩:=bV (a:=q8) [13,10] (by simp only[ae,ai] at l1 l3 l5 l7 ⊢;omega);have key:q9.length≤400*(i+1):=by simp only[ae,ai] at l1 l3 l5 l7 l9;omega
    refine⟨q9, ?_⟩;simp only[key,true_and];clear key l1 l2 l3 l4 l5 l6 l7 l8 l9;simp only[mX,Bl,Bm];simp only[ah,aD,af,ints,di,aJ,iS] at g1 g4 g6 a3 ml ⊢;generalize au view=rv at*;generalize au pk=rp at*;generalize view[z]=g at*;generalize b.af[y].flags.map cA=rf at*;generalize (b.af.map fun m:fi=>[I m.gid,I m.uid,T.sl false 3 (m.flags.map cA),S m.text])=rm at*;simp (maxSteps:=9^9) [bF.l0,ar,aa,setAt,ak,g1,g2,g3,g4,g5,g6,a1,a2,a3,pl,vl,ml,c,c1,e1,e5,hzl,hy,hy0,s1,s2,s3,s4,s5,s6,s7,s8,s9]
   obtain⟨t',n',ht',hh⟩:=hh;exact⟨_,hh,⟨c,ht'⟩,by simp only;omega⟩
 ·right;have c1:¬(i:Int)<pk.length:=by omega
  have hh:∃n',b9 (run M) k bF.l0 (mX b view pk ⟨i,t,v,n⟩)=some (.exit 0,xl b view pk ⟨i,t,v,n'⟩):=by
   simp only[mX,xl,Bl,Bm,ints];generalize au pk=rp at*;simp (maxSteps:=9^9) [bF.l0,ar,aa,setAt,ak,pl,c1]
  obtain⟨n',hh⟩:=hh;exact⟨_,hh,by simp,_,rfl,by simp only;omega⟩
theorem bF.aE(h:bF.k M)(b:cX)(hb:BoxM b)(view pk:List Int)(hv:view.length≤1000)(hp:∀v∈pk,1≤v∧v≤view.length)(hpl:pk.length≤100):
  ∃t:List UInt8,t.length≤40000∧run M 324 [.a (ah b),.c (ints view),.c (ints pk)] []=some (.c (S t),[]):=by
 obtain⟨h0,k1,k2,k3,k4,k5⟩:=h;obtain⟨r,hr,⟨⟨i,t,v,n⟩,rfl,ht⟩⟩:=fc (f:=b9 (run M) 101 bF.l0) (mX b view pk) (fun s=>s.i≤pk.length∧s.t.length≤400*s.i) (fun s=>pk.length-s.i) (fun r=>∃s',r=(.exit 0,xl b view pk s')∧s'.t.length≤40000)
  (fun s hs=>zq ⟨k1,k2,k3,k4,k5⟩ 101 b hb view pk hv hp hpl s hs) 101 ⟨0,[],2000000,2000064⟩ ⟨by simp,by simp⟩ (by simp only;omega)
 refine⟨t,ht,aq (b:=bF.m) h0 ⟨101, ?_⟩⟩;have e0:((0:Nat):Int)=0:=rfl;simp only[mX,xl,Bl,Bm,e0,ints,ah,af] at hr ⊢;generalize au view=rv at*;generalize au pk=rp at*;generalize b.af.map aD=rm at*;simp (maxSteps:=9^9) [bB,bF.m,bF.b,ar,aa,setAt,ak,hr]
structure Ac where
 i:Nat
 rows:List (List T)
 v:Nat
 n:Nat
structure Ab where
 po:Nat
 pn:Nat
inductive Ag:cX→List T→Prop
 |box (b:cX):Ag b (ah b)
 |zero:Ag nP [I 0,S [],I 0,I 0,I 0,.bp 4,.bp 1]
def qZ(x:a5)(bc:List T)(y:Ab)(s:Ac):List (Nat×Ob):=[eL x,(12,⟨y.po,7,true,true,[bc]⟩),(25,⟨s.v,5,true,false,s.rows⟩),(40,⟨y.pn,1,true,false,au x.view⟩)]
def yD(x:a5)(y:Ab)(s:Ac):List (Nat×V):=[(0,.c (.ptr 0 0 0 0)),(11,.c (.row 25 s.v 0 s.rows.length)),(12,.c (.ptr 12 y.po 0 0)),(14,.c (.row 40 y.pn 0 x.view.length)),(15,.c (I s.i))]
def qk(x:a5)(bc:List T)(y:Ab)(s:Ac):St:={t:=yD x y s,o:=qZ x bc y s,n:=s.n}
def Ay(x:a5)(bc:List T)(y:Ab)(s:Ac):St:={t:=yD x y s++[(51,.c (.bool false))],o:=qZ x bc y s,n:=s.n}
structure C0 (M:Nat→Option Body):Prop where
 at_:aX.k M
 fl:bL.k M
theorem tP(K:C0 M)(k:Nat)(x:a5)(hx:x.view.length≤10)(b:cX)(bc:List T)(hbc:Ag b bc)(hb:BoxM b)(y:Ab)(s:Ac)(h:s.i≤x.view.length∧s.rows.length≤s.i):
  (∃s',b9 (run M) k aw.l0 (qk x bc y s)=some (.normal,qk x bc y s')∧(s'.i≤x.view.length∧s'.rows.length≤s'.i)∧x.view.length-s'.i<x.view.length-s.i)∨
   (∃r,b9 (run M) k aw.l0 (qk x bc y s)=some r∧r.1≠.normal∧∃s',r=(.exit 0,Ay x bc y s')∧s'.rows.length≤10):=by
 obtain⟨po,pn⟩:=y;obtain⟨i,rows,v,n⟩:=s;obtain⟨hi,hr⟩:=h;simp only at hi hr;have vl:(au x.view).length=x.view.length:=by simp
 by_cases c:i<x.view.length
 ·left;have a1:∀hh,(au x.view)[i]'hh=[I x.view[i]]:=by intro hh;simp
  have c1:(i:Int)<x.view.length:=by omega
  have e5:=dS (i:=i) (by omega);have g1:=aX.aE K.at_ b x.view[i] (by have:=hb.len;omega);have skip:(∃n',b9 (run M) k aw.l0 (qk x bc ⟨po,pn⟩ ⟨i,rows,v,n⟩)=some (.normal,qk x bc ⟨po,pn⟩ ⟨i+1,rows,v,n'⟩))→
    ∃s',b9 (run M) k aw.l0 (qk x bc ⟨po,pn⟩ ⟨i,rows,v,n⟩)=some (.normal,qk x bc ⟨po,pn⟩ s')∧(s'.i≤x.view.length∧s'.rows.length≤s'.i)∧x.view.length-s'.i<x.view.length-i:=by
   rintro ⟨n',hh⟩;exact⟨_,hh,⟨c,by simp only;omega⟩,by simp only;omega⟩
  cases hbc with
  |zero=>
   have g2:di (dY nP.af x.view[i])= -1:=rfl;rw[g2] at g1;refine skip ?_;simp only[qk,yD,qZ,eL];simp only[ah,cN,af,ints,nP,bI,fN] at g1 ⊢;generalize au x.view=rv at*;generalize x.view[i]=g at*;simp (maxSteps:=9^9) [aw.l0,ar,aa,setAt,ak,g1,a1,vl,c,c1,e5]
  |box b=>
   cases q:dY b.af x.view[i] with
   |none=>
    rw[q] at g1;refine skip ?_;simp only[qk,yD,qZ,eL];simp only[ah,cN,af,ints,di] at g1 ⊢;generalize au x.view=rv at*;generalize x.view[i]=g at*;generalize b.af.map aD=rm at*;simp (maxSteps:=9^9) [aw.l0,ar,aa,setAt,ak,g1,a1,vl,c,c1,e5]
   |some z=>
    rw[q] at g1;obtain⟨hz,_,_⟩:=fM q;obtain⟨_,_,m3,_⟩:=hJ (hb.ok _ (ax hz));have a3:∀hh,(b.af.map aD)[z]'hh=aD b.af[z]:=by intro hh;simp
    have ml:(b.af.map aD).length=b.af.length:=by simp
    obtain⟨f,hf,g4⟩:=bL.aE K.fl b.af[z].flags (by omega);have hz0:¬(z:Int)<0:=by omega
    have hz1:(0:Int)≤z:=by omega
    by_cases cf:(4:Int)≤f
    ·have et:rows.take rows.length=rows:=aa (Nat.le_refl _);have e6:rows.length+1≤4294967296:=by omega
     have hh:∃v' n',b9 (run M) k aw.l0 (qk x (ah b) ⟨po,pn⟩ ⟨i,rows,v,n⟩)=some (.normal,qk x (ah b) ⟨po,pn⟩ ⟨i+1,rows++[[I 6,I x.box,I x.view[i],I 0,S []]],v',n'⟩):=by
      simp only[qk,yD,qZ,eL,aN,ae,ai];simp only[ah,aD,cN,af,ints,di,iS] at g1 g4 a3 ml ⊢;generalize au x.view=rv at*;generalize x.view[i]=g at*;generalize b.af[z].flags.map cA=rf at*;generalize (b.af.map fun m:fi=>[I m.gid,I m.uid,T.sl false 3 (m.flags.map cA),S m.text])=rm at*;simp (maxSteps:=9^9) [aw.l0,ar,aa,setAt,ak,g1,g4,a1,a3,vl,ml,c,c1,e5,e6,et,hz,hz0,hz1,cf]
     obtain⟨v',n',hh⟩:=hh;exact⟨_,hh,⟨c,by simp;omega⟩,by simp only;omega⟩
    ·refine skip ?_;simp only[qk,yD,qZ,eL];simp only[ah,aD,cN,af,ints,di,iS] at g1 g4 a3 ml ⊢;generalize au x.view=rv at*;generalize x.view[i]=g at*;generalize b.af[z].flags.map cA=rf at*;generalize (b.af.map fun m:fi=>[I m.gid,I m.uid,T.sl false 3 (m.flags.map cA),S m.text])=rm at*;simp (maxSteps:=9^9) [aw.l0,ar,aa,setAt,ak,g1,g4,a1,a3,vl,ml,c,c1,e5,hz,hz0,hz1,cf]
 ·right;have c1:¬(i:Int)<x.view.length:=by omega
  have hh:∃n',b9 (run M) k aw.l0 (qk x bc ⟨po,pn⟩ ⟨i,rows,v,n⟩)=some (.exit 0,Ay x bc ⟨po,pn⟩ ⟨i,rows,v,n'⟩):=by
   simp only[qk,Ay,yD,qZ,eL,cN,ints];generalize au x.view=rv at*;simp (maxSteps:=9^9) [aw.l0,ar,aa,setAt,ak,vl,c1]
  obtain⟨n',hh⟩:=hh;exact⟨_,hh,by simp,_,rfl,by simp only;omega⟩
def Ai(x:a5)(pk:List Int)(u:UInt8)(y:Ab)(s:Ac):List (Nat×V):=[(0,.c (.ptr 0 0 0 0)),(11,.c (.row 25 s.v 0 s.rows.length)),(12,.c (.ptr 12 y.po 0 0)),(14,.c (.row 40 y.pn 0 x.view.length)),(19,.c (ints pk)),(23,.c (S [u])),(24,.c (I s.i))]
def qV(x:a5)(pk:List Int)(u:UInt8)(bc:List T)(y:Ab)(s:Ac):St:={t:=Ai x pk u y s,o:=qZ x bc y s,n:=s.n}
def Az(x:a5)(pk:List Int)(u:UInt8)(bc:List T)(y:Ab)(s:Ac):St:={t:=Ai x pk u y s++[(142,.c (.bool false))],o:=qZ x bc y s,n:=s.n}
theorem tQ(ka:aX.k M)(k:Nat)(x:a5)(hx:x.view.length≤10)(pk:List Int)(hp:∀v∈pk,1≤v∧v≤x.view.length)(hpl:pk.length≤100)(u:UInt8)(b:cX)(bc:List T)(hbc:Ag b bc)(hb:BoxM b)(y:Ab)(s:Ac)(h:s.i≤pk.length∧s.rows.length≤s.i):
  (∃s',b9 (run M) k aw.l1 (qV x pk u bc y s)=some (.normal,qV x pk u bc y s')∧(s'.i≤pk.length∧s'.rows.length≤s'.i)∧pk.length-s'.i<pk.length-s.i)∨
   (∃r,b9 (run M) k aw.l1 (qV x pk u bc y s)=some r∧r.1≠.normal∧∃s',r=(.exit 2,Az x pk u bc y s')∧s'.rows.length≤100):=by
 obtain⟨po,pn⟩:=y;obtain⟨i,rows,v,n⟩:=s;obtain⟨hi,hr⟩:=h;simp only at hi hr;have vl:(au x.view).length=x.view.length:=by simp
 have pl:(au pk).length=pk.length:=by simp
 by_cases c:i<pk.length
 ·left;obtain⟨h1,h2⟩:=hp _ (ax c);have a1:∀hh,(au pk)[i]'hh=[I pk[i]]:=by intro hh;simp
  obtain⟨z,hz⟩:∃z:Nat,pk[i]=(z:Int)+1:=⟨(pk[i]-1).toNat,by omega⟩
  have hzl:z<x.view.length:=by omega
  have a2:∀hh,(au x.view)[z]'hh=[I x.view[z]]:=by intro hh;simp
  have e1:IntKind.i64.wrap (z:Int)=(z:Int):=wrap_i64 (by omega) (by omega);have c1:(i:Int)<pk.length:=by omega
  have e5:=dS (i:=i) (by omega);rw[hz] at a1;have g1:=aX.aE ka b x.view[z] (by have:=hb.len;omega);have skip:(∃n',b9 (run M) k aw.l1 (qV x pk u bc ⟨po,pn⟩ ⟨i,rows,v,n⟩)=some (.normal,qV x pk u bc ⟨po,pn⟩ ⟨i+1,rows,v,n'⟩))→
    ∃s',b9 (run M) k aw.l1 (qV x pk u bc ⟨po,pn⟩ ⟨i,rows,v,n⟩)=some (.normal,qV x pk u bc ⟨po,pn⟩ s')∧(s'.i≤pk.length∧s'.rows.length≤s'.i)∧pk.length-s'.i<pk.length-i:=by
   rintro ⟨n',hh⟩;exact⟨_,hh,⟨c,by simp only;omega⟩,by simp only;omega⟩
  cases hbc with
  |zero=>
   have g2:di (dY nP.af x.view[z])= -1:=rfl;rw[g2] at g1;refine skip ?_;simp only[qV,Ai,qZ,eL];simp only[ah,cN,af,ints,nP,bI,fN] at g1 ⊢;generalize au x.view=rv at*;generalize au pk=rp at*;generalize x.view[z]=g at*;simp (maxSteps:=9^9) [aw.l1,ar,aa,setAt,ak,g1,a1,a2,vl,pl,c,c1,e1,e5,hzl]
  |box b=>
   cases q:dY b.af x.view[z] with
   |none=>
    rw[q] at g1;refine skip ?_;simp only[qV,Ai,qZ,eL];simp only[ah,cN,af,ints,di] at g1 ⊢;generalize au x.view=rv at*;generalize au pk=rp at*;generalize x.view[z]=g at*;generalize b.af.map aD=rm at*;simp (maxSteps:=9^9) [aw.l1,ar,aa,setAt,ak,g1,a1,a2,vl,pl,c,c1,e1,e5,hzl]
   |some m=>
    rw[q] at g1;have hz0:(0:Int)≤m:=by omega
    have hu:=u.toNat_lt;have e7:IntKind.i64.wrap (u.toNat:Int)=u.toNat:=wrap_i64 (by omega) (by omega);have e8:IntKind.i64.wrap ((u.toNat:Int)-48)=(u.toNat:Int)-48:=wrap_i64 (by omega) (by omega);have et:rows.take rows.length=rows:=aa (Nat.le_refl _);have e6:rows.length+1≤4294967296:=by omega
    have hh:∃v' n',b9 (run M) k aw.l1 (qV x pk u (ah b) ⟨po,pn⟩ ⟨i,rows,v,n⟩)=some (.normal,qV x pk u (ah b) ⟨po,pn⟩ ⟨i+1,rows++[[I 5,I x.box,I x.view[z],I ((u.toNat:Int)-48),S []]],v',n'⟩):=by
     simp only[qV,Ai,qZ,eL,aN,ae,ai];simp only[ah,cN,af,ints,di] at g1 ⊢;generalize au x.view=rv at*;generalize au pk=rp at*;generalize x.view[z]=g at*;generalize b.af.map aD=rm at*;simp (maxSteps:=9^9) [aw.l1,ar,aa,setAt,ak,g1,a1,a2,vl,pl,c,c1,e1,e5,e6,e7,e8,et,hzl,hz0]
    obtain⟨v',n',hh⟩:=hh;exact⟨_,hh,⟨c,by simp;omega⟩,by simp only;omega⟩
 ·right;have c1:¬(i:Int)<pk.length:=by omega
  have hh:∃n',b9 (run M) k aw.l1 (qV x pk u bc ⟨po,pn⟩ ⟨i,rows,v,n⟩)=some (.exit 2,Az x pk u bc ⟨po,pn⟩ ⟨i,rows,v,n'⟩):=by
   simp only[qV,Az,Ai,qZ,eL,cN,ints];generalize au x.view=rv at*;generalize au pk=rp at*;simp (maxSteps:=9^9) [aw.l1,ar,aa,setAt,ak,pl,c1]
  obtain⟨n',hh⟩:=hh;exact⟨_,hh,by simp,_,rfl,by simp only;omega⟩
theorem gP:∀(ps:List (List UInt8)) (acc:List Range),acc.length≤8→(kv ps acc).1.length≤8
 |[],acc,h=>by simpa [kv] using h
 |p::ps,acc,h=>by
  rw[kv];cases jP p with
  |none=>simp
  |some r=>
   simp only;split
   ·simp
   ·exact gP ps _ (by simp;omega)
theorem n_{s:aP}{x:a5}(h:fv s x):fv s (told mc x s).1:=by
 unfold told;split
 ·exact h
 ·split
  ·exact⟨h.i,h.o,.inl rfl⟩
  ·split
   ·exact h
   ·rename_i b hb;exact⟨h.i,h.o,.inr ⟨b,cT hb,rfl⟩⟩
theorem oa{s:aP}{x:a5}(hx:x.view.length≤10)(hs:∀b∈s.boxes,b.af.length≤10):(told mc x s).2.length≤1000:=by
 unfold told;split
 ·simp
 ·split
  ·simp[se]
  ·split
   ·simp
   ·rename_i b hb;have h1:=kP (aI b) x.view (by omega);have h2:=hs b (cT hb);have gl:(aI b).length=b.af.length:=by simp[aI]
    have hd:=fX (n:=((aI b).length:Int)) (by omega) (by omega);simp only[aN];split
    ·simp only[aN,kF,tn,ae,ai];omega
    ·simp only[ai];omega
structure yo (M:Nat→Option Body):Prop where
 h0:M 310=some (.code aw.m)
 at_:aX.k M
 told:bO.k M
 box:bJ.k M
 fl:bL.k M
 set:aS.k M
 pick:bU.k M
 At:bF.k M
def yn(M:Nat→Option Body)(s:aP)(x:a5)(w:List UInt8)(p:List Token):Prop:=
 ∃(x':a5) (t:List UInt8) (ok:Bool) (rows:List (List T)),fv s x'∧t.length≤100000∧rows.length≤1000∧run M 310 [.c (.ptr 0 0 0 0),.a (ao s),.c (S w),.c (ev p)] [eL x]=some (.hC [.c (S t),.c (.sl true 5 rows),.c (.bool ok)],[eL x'])
theorem re(K:yo M)(s:aP)(hs:aW s=true)(x:a5)(hx:fv s x)(p:List Token)(h1:run M 196 [.a (ao s),.c (I x.box)] []=some (.c (I (-1)),[])):yn M s x eG p:=by
 have vx:=hx.len hs;have vl:(au x.view).length=x.view.length:=by simp
 have vle:x.view.length≤4294967296:=by omega
 have vt:(au x.view).take x.view.length=au x.view:=aa (by omega);have G:=bW.1 hs;have e0:((0:Nat):Int)=0:=rfl;have hM:=o4;obtain⟨r,hr,⟨⟨i,rows,v,n⟩,rfl,ht⟩⟩:=fc (f:=b9 (run M) 11 aw.l0) (qk x [I 0,S [],I 0,I 0,I 0,.bp 4,.bp 1] ⟨2000112,2000368⟩) (fun q=>q.i≤x.view.length∧q.rows.length≤q.i) (fun q=>x.view.length-q.i) (fun r=>∃s',r=(.exit 0,Ay x [I 0,S [],I 0,I 0,I 0,.bp 4,.bp 1] ⟨2000112,2000368⟩ s')∧s'.rows.length≤10)
  (fun q hq=>tP ⟨K.at_,K.fl⟩ 11 x vx nP _ .zero hM _ q hq) 11 ⟨0,[],2000064,2000448⟩ ⟨by simp,by simp⟩ (by simp only;omega)
 simp only at ht;have et:rows.take rows.length=rows:=aa (Nat.le_refl _);refine⟨x,[],true,rows,hx,by simp,by omega,aq (b:=aw.m) K.h0 ⟨11, ?_⟩⟩;simp only[qk,Ay,yD,qZ,eL,e0,ai] at hr ⊢;simp only[ao,boxes,ints,cN,ah,af] at h1 hr ⊢;generalize au x.view=rv at*;generalize (s.boxes.map fun b:cX=>[I b.gid,S b.name,I b.time,I b.eP,I b.next,T.sl false 4 (b.af.map aD),T.sl false 1 (au b.gone)])=r1 at*;generalize au s.gone=r2 at*;generalize p.map aJ=rp at*;simp (maxSteps:=9^9) [bB,aw.m,aw.b,ar,aa,setAt,ak,h1,vl,vle,bj,hr,et]
theorem n6(K:yo M)(s:aP)(hs:aW s=true)(x:a5)(hx:fv s x)(w:List UInt8)(hw:¬w=eG)(p:List Token)(hp:0<p.length)(hpt:∀t∈p,t.text.length≤60)(hr:(bE p[0].text).2=false)(h1:run M 196 [.a (ao s),.c (I x.box)] []=some (.c (I (-1)),[])):yn M s x w p:=by
 have vx:=hx.len hs;have vl:(au x.view).length=x.view.length:=by simp
 have vle:x.view.length≤4294967296:=by omega
 have vt:(au x.view).take x.view.length=au x.view:=aa (by omega);have G:=bW.1 hs;have e0:((0:Nat):Int)=0:=rfl;have hM:=o4;have h2:=aS.aE K.set p[0].text (by have:=hpt _ (ax hp);omega);have t0:=gm (p:=p) (i:=0) (by omega);have el:(p.map aJ).length=p.length:=by simp
 have p0':0<p.length:=by omega
 rw[hr] at h2;generalize (bE p[0].text).1.map fu=rr at*;refine⟨x,[],false,[],hx,by simp,by simp,aq (b:=aw.m) K.h0 ⟨0, ?_⟩⟩;simp only[eL,ao,boxes,ints,cN,ah,af,aJ] at h1 t0 el ⊢;generalize (p.map fun x:Token=>[I x.kind,S x.text])=rp at*;generalize au x.view=rv at*;generalize (s.boxes.map fun b:cX=>[I b.gid,S b.name,I b.time,I b.eP,I b.next,T.sl false 4 (b.af.map aD),T.sl false 1 (au b.gone)])=r1 at*;generalize au s.gone=r2 at*;simp (maxSteps:=9^9) [bB,aw.m,aw.b,ar,aa,setAt,ak,h1,vl,vle,bj,h2,t0,el,p0',hw]
theorem pj(K:yo M)(s:aP)(hs:aW s=true)(x:a5)(hx:fv s x)(p:List Token)(hp:0<p.length)(hpt:∀t∈p,t.text.length≤60)(hr:(bE p[0].text).2=true)(h1:run M 196 [.a (ao s),.c (I x.box)] []=some (.c (I (-1)),[])):yn M s x gj p:=by
 have vx:=hx.len hs;have vl:(au x.view).length=x.view.length:=by simp
 have vle:x.view.length≤4294967296:=by omega
 have vt:(au x.view).take x.view.length=au x.view:=aa (by omega);have G:=bW.1 hs;have e0:((0:Nat):Int)=0:=rfl;have hM:=o4;have h2:=aS.aE K.set p[0].text (by have:=hpt _ (ax hp);omega);have t0:=gm (p:=p) (i:=0) (by omega);have el:(p.map aJ).length=p.length:=by simp
 have p0':0<p.length:=by omega
 rw[hr] at h2;have h3:=bU.aE K.pick (bE p[0].text).1 x.view.length (by have:=gP (pieces p[0].text) [] (by simp);unfold bE;omega);have hpm:=jQ (l:=(bE p[0].text).1) (n:=x.view.length);have hpk:=jR (bE p[0].text).1 x.view.length;obtain⟨t,ht,h4⟩:=bF.aE K.At nP hM x.view (ff (bE p[0].text).1 x.view.length) (by omega) hpm hpk;have h5:=bO.aE K.told x (by omega) s (by have:=G.len;omega) (fun b hb=>by have:=(G.box b hb).1.len;omega);have htl:=oa vx (s:=s) (fun b hb=>(G.box b hb).1.len);have hts:=n_ hx;generalize told mc x s=y at*;obtain⟨y,tt⟩:=y;simp only at h5 htl hts;obtain⟨q,s1,l1⟩:=gX (a:=tt) (b:=t) (by omega);refine⟨y,q,true,[],hts,by omega,by simp,aq (b:=aw.m) K.h0 ⟨0, ?_⟩⟩;simp only[jN,rows,ints] at h3 h4;generalize au (ff (bE p[0].text).1 x.view.length)=rk at*;generalize (bE p[0].text).1.map fu=rr at*;simp only[dw] at h5;simp only[nP,bI,fN] at h4;simp only[eL,ao,boxes,ints,cN,ah,af,aJ,bI,fN] at h1 h3 h4 h5 t0 el ⊢;generalize au y.view=ry at*;generalize (p.map fun x:Token=>[I x.kind,S x.text])=rp at*;generalize au x.view=rv at*;generalize (s.boxes.map fun b:cX=>[I b.gid,S b.name,I b.time,I b.eP,I b.next,T.sl false 4 (b.af.map aD),T.sl false 1 (au b.gone)])=r1 at*;generalize au s.gone=r2 at*;simp (maxSteps:=9^9) [bB,aw.m,aw.b,ar,aa,setAt,ak,h1,vl,vle,bj,h2,h3,h4,h5,t0,el,p0',s1]
theorem ri(K:yo M)(s:aP)(hs:aW s=true)(x:a5)(hx:fv s x)(p:List Token)(hp:0<p.length)(hp1:1<p.length)(hpt:∀t∈p,t.text.length≤60)(hr:(bE p[0].text).2=true)(hf:∀u,p[1].text=[u]→(u.toNat:Int)<48∨55<(u.toNat:Int))(h1:run M 196 [.a (ao s),.c (I x.box)] []=some (.c (I (-1)),[])):yn M s x fG p:=by
 have vx:=hx.len hs;have vl:(au x.view).length=x.view.length:=by simp
 have vle:x.view.length≤4294967296:=by omega
 have vt:(au x.view).take x.view.length=au x.view:=aa (by omega);have G:=bW.1 hs;have e0:((0:Nat):Int)=0:=rfl;have hM:=o4;have h2:=aS.aE K.set p[0].text (by have:=hpt _ (ax hp);omega);have t0:=gm (p:=p) (i:=0) (by omega);have el:(p.map aJ).length=p.length:=by simp
 have p0':0<p.length:=by omega
 rw[hr] at h2;have h3:=bU.aE K.pick (bE p[0].text).1 x.view.length (by have:=gP (pieces p[0].text) [] (by simp);unfold bE;omega);have t1:=gm (p:=p) (i:=1) (by omega);refine⟨x,[],false,[],hx,by simp,by simp,aq (b:=aw.m) K.h0 ⟨0, ?_⟩⟩;simp only[jN,rows] at h3;generalize au (ff (bE p[0].text).1 x.view.length)=rk at*;generalize (bE p[0].text).1.map fu=rr at*;simp only[eL,ao,boxes,ints,cN,ah,af,aJ] at h1 h3 t0 t1 el ⊢;generalize p[1].text=g at*;generalize p[1].kind=gk at*;generalize (p.map fun x:Token=>[I x.kind,S x.text])=rp at*;generalize au x.view=rv at*;generalize (s.boxes.map fun b:cX=>[I b.gid,S b.name,I b.time,I b.eP,I b.next,T.sl false 4 (b.af.map aD),T.sl false 1 (au b.gone)])=r1 at*;generalize au s.gone=r2 at*;by_cases c1:(g.length:Int)=1
 ·match g,c1,hf with
  |[u],_,hf=>
   have gz:(bs [u]).size=1:=rfl;have gi:∀hh,(bs [u])[0]'hh=u:=fun hh=>ar [u] 0 hh
   rcases hf u rfl with z|z
   ·simp (maxSteps:=9^9) [bB,aw.m,aw.b,ar,aa,setAt,ak,h1,vl,vle,bj,h2,h3,t0,t1,el,p0',hp1,z,gz,gi]
   ·have z2:¬(u.toNat:Int)<48:=by omega
    simp (maxSteps:=9^9) [bB,aw.m,aw.b,ar,aa,setAt,ak,h1,vl,vle,bj,h2,h3,t0,t1,el,p0',hp1,z,z2,gz,gi]
 ·simp (maxSteps:=9^9) [bB,aw.m,aw.b,ar,aa,setAt,ak,h1,vl,vle,bj,h2,h3,t0,t1,el,p0',hp1,c1]
theorem pg(K:yo M)(s:aP)(hs:aW s=true)(x:a5)(hx:fv s x)(p:List Token)(hp:0<p.length)(hp1:1<p.length)(hpt:∀t∈p,t.text.length≤60)(hr:(bE p[0].text).2=true)(u:UInt8)(hu:p[1].text=[u])(hu1:¬(u.toNat:Int)<48)(hu2:¬55<(u.toNat:Int))(h1:run M 196 [.a (ao s),.c (I x.box)] []=some (.c (I (-1)),[])):yn M s x fG p:=by
 have vx:=hx.len hs;have vl:(au x.view).length=x.view.length:=by simp
 have vle:x.view.length≤4294967296:=by omega
 have vt:(au x.view).take x.view.length=au x.view:=aa (by omega);have G:=bW.1 hs;have e0:((0:Nat):Int)=0:=rfl;have hM:=o4;have h2:=aS.aE K.set p[0].text (by have:=hpt _ (ax hp);omega);have t0:=gm (p:=p) (i:=0) (by omega);have el:(p.map aJ).length=p.length:=by simp
 have p0':0<p.length:=by omega
 rw[hr] at h2;have h3:=bU.aE K.pick (bE p[0].text).1 x.view.length (by have:=gP (pieces p[0].text) [] (by simp);unfold bE;omega);have hpm:=jQ (l:=(bE p[0].text).1) (n:=x.view.length);have hpk:=jR (bE p[0].text).1 x.view.length;have t1:=gm (p:=p) (i:=1) (by omega);obtain⟨r,hl,⟨⟨i,rows',v,n⟩,rfl,ht⟩⟩:=fc (f:=b9 (run M) 101 aw.l1) (qV x (ff (bE p[0].text).1 x.view.length) u [I 0,S [],I 0,I 0,I 0,.bp 4,.bp 1] ⟨2000112,2000368⟩) (fun q=>q.i≤(ff (bE p[0].text).1 x.view.length).length∧q.rows.length≤q.i) (fun q=>(ff (bE p[0].text).1 x.view.length).length-q.i) (fun r=>∃s',r=(.exit 2,Az x (ff (bE p[0].text).1 x.view.length) u [I 0,S [],I 0,I 0,I 0,.bp 4,.bp 1] ⟨2000112,2000368⟩ s')∧s'.rows.length≤100)
  (fun q hq=>tQ K.at_ 101 x vx _ hpm hpk u nP _ .zero hM _ q hq) 101 ⟨0,[],2000064,2001040⟩ ⟨by simp,by simp⟩ (by simp only;omega)
 simp only at ht;have et:rows'.take rows'.length=rows':=aa (Nat.le_refl _);refine⟨x,[],true,rows',hx,by simp,by omega,aq (b:=aw.m) K.h0 ⟨101, ?_⟩⟩;simp only[jN,rows] at h3;simp only[qV,Az,Ai,qZ,eL,e0,ai] at hl;simp only[ints] at hl;generalize au (ff (bE p[0].text).1 x.view.length)=rk at*;generalize (bE p[0].text).1.map fu=rr at*;simp only[eL,ao,boxes,ints,cN,ah,af,aJ] at h1 h3 t0 t1 el hl ⊢;rw[hu] at t1;generalize p[1].kind=gk at*;have gz:(bs [u]).size=1:=rfl;have gi:∀hh,(bs [u])[0]'hh=u:=fun hh=>ar [u] 0 hh
 generalize (p.map fun x:Token=>[I x.kind,S x.text])=rp at*;generalize au x.view=rv at*;generalize (s.boxes.map fun b:cX=>[I b.gid,S b.name,I b.time,I b.eP,I b.next,T.sl false 4 (b.af.map aD),T.sl false 1 (au b.gone)])=r1 at*;generalize au s.gone=r2 at*;simp (maxSteps:=9^9) [bB,aw.m,aw.b,ar,aa,setAt,ak,h1,vl,vle,bj,h2,h3,t0,t1,el,p0',hp1,hu1,hu2,gz,gi,hl,et]
theorem q_(K:yo M)(s:aP)(hs:aW s=true)(x:a5)(hx:fv s x)(p:List Token)(k:Nat)(hk:k<s.boxes.length)(h1:run M 196 [.a (ao s),.c (I x.box)] []=some (.c (I (k:Int)),[])):yn M s x eG p:=by
 have vx:=hx.len hs;have vl:(au x.view).length=x.view.length:=by simp
 have vle:x.view.length≤4294967296:=by omega
 have vt:(au x.view).take x.view.length=au x.view:=aa (by omega);have G:=bW.1 hs;have e0:((0:Nat):Int)=0:=rfl;have a1:∀hh,(s.boxes.map ah)[k]'hh=ah s.boxes[k]:=by intro hh;simp
 have bl:(s.boxes.map ah).length=s.boxes.length:=by simp
 have hk0:(0:Int)≤k:=by omega
 have hM:BoxM s.boxes[k]:=⟨(G.box _ (ax hk)).1.len,fun m hm=>((G.box _ (ax hk)).1.pz m hm).1⟩;obtain⟨r,hr,⟨⟨i,rows,v,n⟩,rfl,ht⟩⟩:=fc (f:=b9 (run M) 11 aw.l0) (qk x (ah s.boxes[k]) ⟨2000112,2000464⟩) (fun q=>q.i≤x.view.length∧q.rows.length≤q.i) (fun q=>x.view.length-q.i) (fun r=>∃s',r=(.exit 0,Ay x (ah s.boxes[k]) ⟨2000112,2000464⟩ s')∧s'.rows.length≤10)
  (fun q hq=>tP ⟨K.at_,K.fl⟩ 11 x vx s.boxes[k] _ (.box _) hM _ q hq) 11 ⟨0,[],2000064,2000544⟩ ⟨by simp,by simp⟩ (by simp only;omega)
 simp only at ht;have et:rows.take rows.length=rows:=aa (Nat.le_refl _);refine⟨x,[],true,rows,hx,by simp,by omega,aq (b:=aw.m) K.h0 ⟨11, ?_⟩⟩;simp only[qk,Ay,yD,qZ,eL,e0,ai] at hr ⊢;simp only[ao,boxes,ints,cN,ah,af] at h1 a1 hr ⊢;generalize au x.view=rv at*;generalize (s.boxes.map fun b:cX=>[I b.gid,S b.name,I b.time,I b.eP,I b.next,T.sl false 4 (b.af.map aD),T.sl false 1 (au b.gone)])=r1 at*;generalize s.boxes[k].af.map aD=rm at*;generalize au s.boxes[k].gone=r3 at*;generalize au s.gone=r2 at*;generalize p.map aJ=rp at*;simp (maxSteps:=9^9) [bB,aw.m,aw.b,ar,aa,setAt,ak,h1,vl,vle,bj,a1,bl,hk,hk0,hr,et]
theorem n5(K:yo M)(s:aP)(hs:aW s=true)(x:a5)(hx:fv s x)(w:List UInt8)(hw:¬w=eG)(p:List Token)(hp:0<p.length)(hpt:∀t∈p,t.text.length≤60)(hr:(bE p[0].text).2=false)(k:Nat)(hk:k<s.boxes.length)(h1:run M 196 [.a (ao s),.c (I x.box)] []=some (.c (I (k:Int)),[])):yn M s x w p:=by
 have vx:=hx.len hs;have vl:(au x.view).length=x.view.length:=by simp
 have vle:x.view.length≤4294967296:=by omega
 have vt:(au x.view).take x.view.length=au x.view:=aa (by omega);have G:=bW.1 hs;have e0:((0:Nat):Int)=0:=rfl;have a1:∀hh,(s.boxes.map ah)[k]'hh=ah s.boxes[k]:=by intro hh;simp
 have bl:(s.boxes.map ah).length=s.boxes.length:=by simp
 have hk0:(0:Int)≤k:=by omega
 have hM:BoxM s.boxes[k]:=⟨(G.box _ (ax hk)).1.len,fun m hm=>((G.box _ (ax hk)).1.pz m hm).1⟩;have h2:=aS.aE K.set p[0].text (by have:=hpt _ (ax hp);omega);have t0:=gm (p:=p) (i:=0) (by omega);have el:(p.map aJ).length=p.length:=by simp
 have p0':0<p.length:=by omega
 rw[hr] at h2;generalize (bE p[0].text).1.map fu=rr at*;refine⟨x,[],false,[],hx,by simp,by simp,aq (b:=aw.m) K.h0 ⟨0, ?_⟩⟩;simp only[eL,ao,boxes,ints,cN,ah,af,aJ] at h1 a1 t0 el ⊢;generalize (p.map fun x:Token=>[I x.kind,S x.text])=rp at*;generalize au x.view=rv at*;generalize (s.boxes.map fun b:cX=>[I b.gid,S b.name,I b.time,I b.eP,I b.next,T.sl false 4 (b.af.map aD),T.sl false 1 (au b.gone)])=r1 at*;generalize s.boxes[k].af.map aD=rm at*;generalize au s.boxes[k].gone=r3 at*;generalize au s.gone=r2 at*;simp (maxSteps:=9^9) [bB,aw.m,aw.b,ar,aa,setAt,ak,h1,vl,vle,bj,a1,bl,hk,hk0,h2,t0,el,p0',hw]
theorem ph(K:yo M)(s:aP)(hs:aW s=true)(x:a5)(hx:fv s x)(p:List Token)(hp:0<p.length)(hpt:∀t∈p,t.text.length≤60)(hr:(bE p[0].text).2=true)(k:Nat)(hk:k<s.boxes.length)(h1:run M 196 [.a (ao s),.c (I x.box)] []=some (.c (I (k:Int)),[])):yn M s x gj p:=by
 have vx:=hx.len hs;have vl:(au x.view).length=x.view.length:=by simp
 have vle:x.view.length≤4294967296:=by omega
 have vt:(au x.view).take x.view.length=au x.view:=aa (by omega);have G:=bW.1 hs;have e0:((0:Nat):Int)=0:=rfl;have a1:∀hh,(s.boxes.map ah)[k]'hh=ah s.boxes[k]:=by intro hh;simp
 have bl:(s.boxes.map ah).length=s.boxes.length:=by simp
 have hk0:(0:Int)≤k:=by omega
 have hM:BoxM s.boxes[k]:=⟨(G.box _ (ax hk)).1.len,fun m hm=>((G.box _ (ax hk)).1.pz m hm).1⟩;have h2:=aS.aE K.set p[0].text (by have:=hpt _ (ax hp);omega);have t0:=gm (p:=p) (i:=0) (by omega);have el:(p.map aJ).length=p.length:=by simp
 have p0':0<p.length:=by omega
 rw[hr] at h2;have h3:=bU.aE K.pick (bE p[0].text).1 x.view.length (by have:=gP (pieces p[0].text) [] (by simp);unfold bE;omega);have hpm:=jQ (l:=(bE p[0].text).1) (n:=x.view.length);have hpk:=jR (bE p[0].text).1 x.view.length;obtain⟨t,ht,h4⟩:=bF.aE K.At s.boxes[k] hM x.view (ff (bE p[0].text).1 x.view.length) (by omega) hpm hpk;have h5:=bO.aE K.told x (by omega) s (by have:=G.len;omega) (fun b hb=>by have:=(G.box b hb).1.len;omega);have htl:=oa vx (s:=s) (fun b hb=>(G.box b hb).1.len);have hts:=n_ hx;generalize told mc x s=y at*;obtain⟨y,tt⟩:=y;simp only at h5 htl hts;obtain⟨q,s1,l1⟩:=gX (a:=tt) (b:=t) (by omega);refine⟨y,q,true,[],hts,by omega,by simp,aq (b:=aw.m) K.h0 ⟨0, ?_⟩⟩;simp only[jN,rows,ints] at h3 h4;generalize au (ff (bE p[0].text).1 x.view.length)=rk at*;generalize (bE p[0].text).1.map fu=rr at*;simp only[dw] at h5;simp only[eL,ao,boxes,ints,cN,ah,af,aJ] at h1 a1 h3 h4 h5 t0 el ⊢;generalize au y.view=ry at*;generalize (p.map fun x:Token=>[I x.kind,S x.text])=rp at*;generalize au x.view=rv at*;generalize (s.boxes.map fun b:cX=>[I b.gid,S b.name,I b.time,I b.eP,I b.next,T.sl false 4 (b.af.map aD),T.sl false 1 (au b.gone)])=r1 at*;generalize s.boxes[k].af.map aD=rm at*;generalize au s.boxes[k].gone=r3 at*;generalize au s.gone=r2 at*;simp (maxSteps:=9^9) [bB,aw.m,aw.b,ar,aa,setAt,ak,h1,vl,vle,bj,a1,bl,hk,hk0,h2,h3,h4,h5,t0,el,p0',s1]
theorem rh(K:yo M)(s:aP)(hs:aW s=true)(x:a5)(hx:fv s x)(p:List Token)(hp:0<p.length)(hp1:1<p.length)(hpt:∀t∈p,t.text.length≤60)(hr:(bE p[0].text).2=true)(hf:∀u,p[1].text=[u]→(u.toNat:Int)<48∨55<(u.toNat:Int))(k:Nat)(hk:k<s.boxes.length)(h1:run M 196 [.a (ao s),.c (I x.box)] []=some (.c (I (k:Int)),[])):yn M s x fG p:=by
 have vx:=hx.len hs;have vl:(au x.view).length=x.view.length:=by simp
 have vle:x.view.length≤4294967296:=by omega
 have vt:(au x.view).take x.view.length=au x.view:=aa (by omega);have G:=bW.1 hs;have e0:((0:Nat):Int)=0:=rfl;have a1:∀hh,(s.boxes.map ah)[k]'hh=ah s.boxes[k]:=by intro hh;simp
 have bl:(s.boxes.map ah).length=s.boxes.length:=by simp
 have hk0:(0:Int)≤k:=by omega
 have hM:BoxM s.boxes[k]:=⟨(G.box _ (ax hk)).1.len,fun m hm=>((G.box _ (ax hk)).1.pz m hm).1⟩;have h2:=aS.aE K.set p[0].text (by have:=hpt _ (ax hp);omega);have t0:=gm (p:=p) (i:=0) (by omega);have el:(p.map aJ).length=p.length:=by simp
 have p0':0<p.length:=by omega
 rw[hr] at h2;have h3:=bU.aE K.pick (bE p[0].text).1 x.view.length (by have:=gP (pieces p[0].text) [] (by simp);unfold bE;omega);have t1:=gm (p:=p) (i:=1) (by omega);refine⟨x,[],false,[],hx,by simp,by simp,aq (b:=aw.m) K.h0 ⟨0, ?_⟩⟩;simp only[jN,rows] at h3;generalize au (ff (bE p[0].text).1 x.view.length)=rk at*;generalize (bE p[0].text).1.map fu=rr at*;simp only[eL,ao,boxes,ints,cN,ah,af,aJ] at h1 a1 h3 t0 t1 el ⊢;generalize p[1].text=g at*;generalize p[1].kind=gk at*;generalize (p.map fun x:Token=>[I x.kind,S x.text])=rp at*;generalize au x.view=rv at*;generalize (s.boxes.map fun b:cX=>[I b.gid,S b.name,I b.time,I b.eP,I b.next,T.sl false 4 (b.af.map aD),T.sl false 1 (au b.gone)])=r1 at*;generalize s.boxes[k].af.map aD=rm at*;generalize au s.boxes[k].gone=r3 at*;generalize au s.gone=r2 at*;by_cases c1:(g.length:Int)=1
 ·match g,c1,hf with
  |[u],_,hf=>
   have gz:(bs [u]).size=1:=rfl;have gi:∀hh,(bs [u])[0]'hh=u:=fun hh=>ar [u] 0 hh
   rcases hf u rfl with z|z
   ·simp (maxSteps:=9^9) [bB,aw.m,aw.b,ar,aa,setAt,ak,h1,vl,vle,bj,a1,bl,hk,hk0,h2,h3,t0,t1,el,p0',hp1,z,gz,gi]
   ·have z2:¬(u.toNat:Int)<48:=by omega
    simp (maxSteps:=9^9) [bB,aw.m,aw.b,ar,aa,setAt,ak,h1,vl,vle,bj,a1,bl,hk,hk0,h2,h3,t0,t1,el,p0',hp1,z,z2,gz,gi]
 ·simp (maxSteps:=9^9) [bB,aw.m,aw.b,ar,aa,setAt,ak,h1,vl,vle,bj,a1,bl,hk,hk0,h2,h3,t0,t1,el,p0',hp1,c1]
theorem pf(K:yo M)(s:aP)(hs:aW s=true)(x:a5)(hx:fv s x)(p:List Token)(hp:0<p.length)(hp1:1<p.length)(hpt:∀t∈p,t.text.length≤60)(hr:(bE p[0].text).2=true)(u:UInt8)(hu:p[1].text=[u])(hu1:¬(u.toNat:Int)<48)(hu2:¬55<(u.toNat:Int))(k:Nat)(hk:k<s.boxes.length)(h1:run M 196 [.a (ao s),.c (I x.box)] []=some (.c (I (k:Int)),[])):yn M s x fG p:=by
 have vx:=hx.len hs;have vl:(au x.view).length=x.view.length:=by simp
 have vle:x.view.length≤4294967296:=by omega
 have vt:(au x.view).take x.view.length=au x.view:=aa (by omega);have G:=bW.1 hs;have e0:((0:Nat):Int)=0:=rfl;have a1:∀hh,(s.boxes.map ah)[k]'hh=ah s.boxes[k]:=by intro hh;simp
 have bl:(s.boxes.map ah).length=s.boxes.length:=by simp
 have hk0:(0:Int)≤k:=by omega
 have hM:BoxM s.boxes[k]:=⟨(G.box _ (ax hk)).1.len,fun m hm=>((G.box _ (ax hk)).1.pz m hm).1⟩;have h2:=aS.aE K.set p[0].text (by have:=hpt _ (ax hp);omega);have t0:=gm (p:=p) (i:=0) (by omega);have el:(p.map aJ).length=p.length:=by simp
 have p0':0<p.length:=by omega
 rw[hr] at h2;have h3:=bU.aE K.pick (bE p[0].text).1 x.view.length (by have:=gP (pieces p[0].text) [] (by simp);unfold bE;omega);have hpm:=jQ (l:=(bE p[0].text).1) (n:=x.view.length);have hpk:=jR (bE p[0].text).1 x.view.length;have t1:=gm (p:=p) (i:=1) (by omega);obtain⟨r,hl,⟨⟨i,rows',v,n⟩,rfl,ht⟩⟩:=fc (f:=b9 (run M) 101 aw.l1) (qV x (ff (bE p[0].text).1 x.view.length) u (ah s.boxes[k]) ⟨2000112,2000464⟩) (fun q=>q.i≤(ff (bE p[0].text).1 x.view.length).length∧q.rows.length≤q.i) (fun q=>(ff (bE p[0].text).1 x.view.length).length-q.i) (fun r=>∃s',r=(.exit 2,Az x (ff (bE p[0].text).1 x.view.length) u (ah s.boxes[k]) ⟨2000112,2000464⟩ s')∧s'.rows.length≤100)
  (fun q hq=>tQ K.at_ 101 x vx _ hpm hpk u s.boxes[k] _ (.box _) hM _ q hq) 101 ⟨0,[],2000064,2001136⟩ ⟨by simp,by simp⟩ (by simp only;omega)
 simp only at ht;have et:rows'.take rows'.length=rows':=aa (Nat.le_refl _);refine⟨x,[],true,rows',hx,by simp,by omega,aq (b:=aw.m) K.h0 ⟨101, ?_⟩⟩;simp only[jN,rows] at h3;simp only[qV,Az,Ai,qZ,eL,e0,ai] at hl;simp only[ints] at hl;generalize au (ff (bE p[0].text).1 x.view.length)=rk at*;generalize (bE p[0].text).1.map fu=rr at*;simp only[eL,ao,boxes,ints,cN,ah,af,aJ] at h1 a1 h3 t0 t1 el hl ⊢;rw[hu] at t1;generalize p[1].kind=gk at*;have gz:(bs [u]).size=1:=rfl;have gi:∀hh,(bs [u])[0]'hh=u:=fun hh=>ar [u] 0 hh
 generalize (p.map fun x:Token=>[I x.kind,S x.text])=rp at*;generalize au x.view=rv at*;generalize (s.boxes.map fun b:cX=>[I b.gid,S b.name,I b.time,I b.eP,I b.next,T.sl false 4 (b.af.map aD),T.sl false 1 (au b.gone)])=r1 at*;generalize s.boxes[k].af.map aD=rm at*;generalize au s.boxes[k].gone=r3 at*;generalize au s.gone=r2 at*;simp (maxSteps:=9^9) [bB,aw.m,aw.b,ar,aa,setAt,ak,h1,vl,vle,bj,a1,bl,hk,hk0,h2,h3,t0,t1,el,p0',hp1,hu1,hu2,gz,gi,hl,et]
theorem aw.aE(h:aw.k M)(s:aP)(hs:aW s=true)(x:a5)(hx:fv s x)(w:List UInt8)(p:List Token)(hpt:∀t∈p,t.text.length≤60)(hw:w=eG∨(w=gj∧0<p.length)∨(w=fG∧1<p.length)):yn M s x w p:=by
 obtain⟨h0,k1,k2,k3,k4,k5,k6,k7⟩:=h;have K:yo M:=⟨h0,k1,k2,k3,k4,k5,k6,k7⟩;have h1:=bJ.aE k3 s x.box (by have:=(bW.1 hs).len;omega);have st:∀{g:List UInt8},(∀u,g=[u]→(u.toNat:Int)<48∨55<(u.toNat:Int))∨∃u:UInt8,g=[u]∧¬(u.toNat:Int)<48∧¬55<(u.toNat:Int):=by
  intro g;by_cases c:∃u:UInt8,g=[u]∧¬(u.toNat:Int)<48∧¬55<(u.toNat:Int)
  ·exact .inr c
  ·exact .inl fun u hu=>Classical.byContradiction fun z=>c ⟨u,hu,fun y=>z (.inl y),fun y=>z (.inr y)⟩
 cases q:gH s.boxes x.box with
 |none=>
  rw[q] at h1;rcases hw with rfl|⟨rfl,hp⟩|⟨rfl,hp⟩
  ·exact re K s hs x hx p h1
  ·cases hr:(bE p[0].text).2 with
   |false=>exact n6 K s hs x hx _ (by decide) p hp hpt hr h1
   |true=>exact pj K s hs x hx p hp hpt hr h1
  ·cases hr:(bE p[0].text).2 with
   |false=>exact n6 K s hs x hx _ (by decide) p (by omega) hpt hr h1
   |true=>
    rcases st (g:=p[1].text) with z|⟨u,z1,z2,z3⟩
    ·exact ri K s hs x hx p (by omega) hp hpt hr z h1
    ·exact pg K s hs x hx p (by omega) hp hpt hr u z1 z2 z3 h1
 |some k=>
  obtain⟨hk,_⟩:=eE q;rw[q] at h1;rcases hw with rfl|⟨rfl,hp⟩|⟨rfl,hp⟩
  ·exact q_ K s hs x hx p k hk h1
  ·cases hr:(bE p[0].text).2 with
   |false=>exact n5 K s hs x hx _ (by decide) p hp hpt hr k hk h1
   |true=>exact ph K s hs x hx p hp hpt hr k hk h1
  ·cases hr:(bE p[0].text).2 with
   |false=>exact n5 K s hs x hx _ (by decide) p (by omega) hpt hr k hk h1
   |true=>
    rcases st (g:=p[1].text) with z|⟨u,z1,z2,z3⟩
    ·exact rh K s hs x hx p (by omega) hp hpt hr z k hk h1
    ·exact pf K s hs x hx p (by omega) hp hpt hr u z1 z2 z3 k hk h1
end Mx
