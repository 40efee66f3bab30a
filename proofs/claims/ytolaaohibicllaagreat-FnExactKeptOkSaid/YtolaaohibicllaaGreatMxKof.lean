/-
  What more of the functions compute, each by a small evaluation; no condition beyond what each says.
-/
import Derived.Test.YtolaaohibicllaaGreatMxKoe
set_option maxHeartbeats 16000000
set_option linter.unusedSimpArgs false
set_option linter.unusedVariables false
namespace Mx
open Go
variable {M:Nat→Option Body}
theorem xp{l:List Int}{most:Int}(h:lV l most=true):ym l:=by
 simp only[lV,aj,decide_eq_true_eq,ch,jE] at h;have hn:∀j (hj:j<l.length),∀i (hi:i<j),l[i]'(by omega)<l[j]:=by
  intro j
  induction j with
  |zero=>intro _ i hi;omega
  |succ j ih=>
   intro hj i hi;have:=h.1 (j+1) hj;rw[ou hj] at this;simp at this;by_cases e:i=j
   ·subst e;exact this.2
   ·exact Int.lt_trans (ih (by omega) i (by omega)) this.2
 exact List.pairwise_iff_getElem.2 fun i j hi hj hij=>hn j hj i hij
theorem xS{b:bq}(h:fA b=true):lV b.gone 40=true:=by
 simp only[fA,aj] at h;exact h.1.2
def lp(b:bq)(g:Int):bq×Bool:=match fX b.ae g with
 |none=>(b,false)
 |some k=>if fA b=true∧b.gone.length<40 then({b with ae:=b.ae.take k++b.ae.drop (k+1),gone:=la b.gone g},true) else(b,false)
theorem ux(h:aX.k M)(r:List (List T))(k:Nat)(hk:k<r.length)(hl:r.length≤1048576):
  run M 162 [.c (.row 0 0 0 r.length),.c (I k),.c (I ((k:Int)+1))] [(0,⟨0,4,true,false,r⟩)]=
   some (.c (.row 0 0 0 (r.length-1)),[(0,⟨0,4,true,false,r.take k++r.drop (k+1)++[sQ]⟩)]):=by
 have e:r.take k++r[k]::r.drop (k+1)=r:=by simp
 have:=sD h (r.take k) r[k] (r.drop (k+1)) (by simp;omega);rw[e] at this;have e1:(r.take k).length=k:=by simp;omega
 have e2:(r.drop (k+1)).length=r.length-(k+1):=by simp
 rw[e1,e2] at this;have e3:k+(r.length-(k+1)+1)=r.length:=by omega
 have e4:k+(r.length-(k+1))=r.length-1:=by omega
 rw[e3,e4] at this;exact this
theorem fH.ak(h:fH.k M)(b:bq)(hb:iw b)(g:Int):run M 73 [.a (af b),.c (I g)] []=some (.lM [.a (b7 (lp b g).1),.c (.bool (lp b g).2)],[]):=by
 obtain⟨h0,k1,k2,k3,k4,k5⟩:=h;have h1:=cy.ak k1 b g hb.m;have h2:=bC.ak k2 b hb.ok.1 hb.ok.2.1 hb.ok.2.2.1 hb.ok.2.2.2;have h4:=cm.ak k3 b hb;have h5:=jr.ak k5 b.gone g hb.g;refine au (b:=fH.m) h0 ⟨0, ?_⟩;have e7:(b.ae.map ah).length=b.ae.length:=by simp
 have e8:=aS b.gone;unfold lp;cases hk:fX b.ae g with
 |none=>
  rw[hk] at h1;simp only[dA] at h1;simp only[af,b7,ae,ints] at*;generalize fA b=ok at*;generalize b.ae.map ah=rm at*;generalize aA b.gone=rg at*;cases ok<;>simp (maxSteps:=9^9) [ba,fH.m,fH.b,aa,setAt,h1,h2,h4,e7,e8,ab]
 |some k=>
  have hlt:=tM hk;rw[hk] at h1;simp only[dA] at h1;have hng:¬(k:Int)<0:=by omega
  cases c1:fA b
  ·rw[c1] at h2;simp only[aB,false_and,if_false];simp only[af,b7,ae,ints] at*;generalize b.ae.map ah=rm at*;generalize aA b.gone=rg at*;simp (maxSteps:=9^9) [ba,fH.m,fH.b,aa,setAt,h1,h2,h4,e7,e8,ab]
  rw[c1] at h2;have h40:=(j5 c1).2.2.2.2.2.2.1;have hml:=(j5 c1).2.2.2.2.2.1;by_cases c2:b.gone.length<40
  ·have n2:¬b.gone.length=40:=by omega
   have n3:¬(b.gone.length:Int)=40:=by omega
   simp only[c2,and_self,if_true];rw[Bj (xp (xS c1))] at h5;have h6:=ux k4 (b.ae.map ah) k (by rw[e7];exact hlt) (by rw[e7];exact hb.m);rw[e7] at h6;have e9:=cA (i:=k) (by omega);have e10:(b.ae.take k++b.ae.drop (k+1)).map ah=(b.ae.map ah).take k++(b.ae.map ah).drop (k+1):=by simp
   have e11:((b.ae.map ah).take k++((b.ae.map ah).drop (k+1)++[sQ])).take (b.ae.length-1)=(b.ae.map ah).take k++(b.ae.map ah).drop (k+1):=by
    rw[←b4];exact List.take_left' (by simp;omega)
   have e12:=aS (la b.gone g);have e13:b.ae.length≤min k b.ae.length+(b.ae.length-(k+1)+1)+1:=by omega
   simp only[af,b7,ae,ints,e10] at*;generalize b.ae.map ah=rm at*;generalize aA b.gone=rg at*;generalize aA (la b.gone g)=ru at*;simp (maxSteps:=9^9) [ba,fH.m,fH.b,aa,setAt,h1,h2,h4,h5,h6,e7,e8,e9,e11,e12,e13,hng,n3,ab]
  ·have n2:b.gone.length=40:=by omega
   have n3:(b.gone.length:Int)=40:=by omega
   simp only[c2,and_false,if_false];simp only[af,b7,ae,ints] at*;generalize b.ae.map ah=rm at*;generalize aA b.gone=rg at*;simp (maxSteps:=9^9) [ba,fH.m,fH.b,aa,setAt,h1,h2,h4,e7,e8,n2,hng,ab]
theorem de.ak(h:de.k M)(b:bq)(hb:iw b)(g:Int):run M 86 [.a (af b),.c (I g)] []=some (.lM [.a (b7 (lp b g).1),.c (.bool (lp b g).2)],[]):=by
 obtain⟨h0,k2,k1,k5,k3⟩:=h;have h1:=bI.ak k1 b g hb.m;have h2:=br.ak k2 b hb.ok.1 hb.ok.2.1 hb.ok.2.2.1 hb.ok.2.2.2;have h4:=bX.ak k3 b hb;have h5:=bU.ak k5 b.gone g (by have:=hb.g;omega);refine au (b:=de.m) h0 ⟨0, ?_⟩;have e7:(b.ae.map ah).length=b.ae.length:=by simp
 have e8:=aS b.gone;unfold lp;cases hk:fX b.ae g with
 |none=>
  rw[hk] at h1;simp only[dA] at h1;simp only[af,b7,ae,ints] at*;generalize fA b=ok at*;generalize b.ae.map ah=rm at*;generalize aA b.gone=rg at*;cases ok<;>simp (maxSteps:=9^9) [ba,de.m,de.b,aa,setAt,h1,h2,h4,e7,e8,ab]
 |some k=>
  have hlt:=tM hk;rw[hk] at h1;simp only[dA] at h1;have hng:¬(k:Int)<0:=by omega
  cases c1:fA b
  ·rw[c1] at h2;simp only[aB,false_and,if_false];simp only[af,b7,ae,ints] at*;generalize b.ae.map ah=rm at*;generalize aA b.gone=rg at*;simp (maxSteps:=9^9) [ba,de.m,de.b,aa,setAt,h1,h2,h4,e7,e8,ab]
  rw[c1] at h2;have h40:=(j5 c1).2.2.2.2.2.2.1;have hml:=(j5 c1).2.2.2.2.2.1;by_cases c2:b.gone.length<40
  ·have n2:¬40≤b.gone.length:=by omega
   have n3:¬(40:Int)≤(b.gone.length:Int):=by omega
   simp only[c2,and_self,if_true];have e9:=cA (i:=k) (by omega);have e10:(b.ae.take k++b.ae.drop (k+1)).map ah=(b.ae.map ah).take k++(b.ae.map ah).drop (k+1):=by simp
   have e14:min k b.ae.length=k:=by omega
   have e12:=aS (la b.gone g);have e13:b.ae.length≤min k b.ae.length+(b.ae.length-(k+1)+1)+1:=by omega
   simp only[af,b7,ae,ints,e10] at*;generalize b.ae.map ah=rm at*;generalize aA b.gone=rg at*;generalize aA (la b.gone g)=ru at*;have f1:k≤b.ae.length:=by omega
   have f2:k+1≤b.ae.length:=by omega
   have f3:(0:Int)≤k:=by omega
   have f4:(0:Int)≤(k:Int)+1:=by omega
   have f5:(k:Int)≤b.ae.length:=by omega
   have f6:(k:Int)+1≤b.ae.length:=by omega
   have f7:((k:Int)+1).toNat=k+1:=by omega
   have f8:rm.take b.ae.length=rm:=ab (by omega);have f9:k≤4294967296:=by omega
   have f10:b.ae.length≤4294967296:=by omega
   have f11:k+(b.ae.length-(k+1))≤4294967296:=by omega
   have f13:IntKind.i64.wrap 1=1:=wrap_i64 (by omega) (by omega);have f14:b.ae.length≤4294967297:=by omega
   have f12:rm.length-(k+1)≤4294967296:=by omega
   by_cases z:k=0
   ·subst z;by_cases y:b.ae.length=1
    ·have y2:rm.drop 1=[]:=dY (by omega);simp (maxSteps:=9^9) [ba,de.m,de.b,aa,setAt,h1,h2,h4,h5,e7,e8,e12,n3,f13,y,y2,ab]
    ·have y1:¬1=b.ae.length:=by omega
     simp (maxSteps:=9^9) [ba,de.m,de.b,aa,setAt,h1,h2,h4,h5,e7,e8,e12,n3,f1,f2,f9,f13,f14,y1,ab]
   ·have z0:¬0=k:=by omega
    by_cases y:b.ae.length=k+1
    ·have y2:rm.drop (k+1)=[]:=dY (by omega);simp (maxSteps:=9^9) [ba,de.m,de.b,aa,setAt,h1,h2,h4,h5,e7,e8,e9,e12,hng,n3,f3,f4,f7,f9,z,z0,y,y2,ab]
    ·have y1:¬k+1=b.ae.length:=by omega
     simp (maxSteps:=9^9) [ba,de.m,de.b,aa,setAt,h1,h2,h4,h5,e7,e8,e9,e12,e14,hng,n3,f1,f2,f3,f4,f7,f9,f11,z,z0,y1,ab]
  ·have n2:40≤b.gone.length:=by omega
   have n3:(40:Int)≤(b.gone.length:Int):=by omega
   simp only[c2,and_false,if_false];simp only[af,b7,ae,ints] at*;generalize b.ae.map ah=rm at*;generalize aA b.gone=rg at*;simp (maxSteps:=9^9) [ba,de.m,de.b,aa,setAt,h1,h2,h4,e7,e8,n3,hng,ab]
end Mx
namespace Mx
open Go
theorem A9(l:List bj)(g:Int):∀d i k,Cs l g d i=some k→i≤k∧∃h:k<l.length,(l[k]).gid=g∧∀j,i≤j→(hj:j<k)→(l[j]'(by omega)).gid≠g
 |0,i,k,h=>by simp[Cs] at h
 |d+1,i,k,h=>by
  simp only[Cs] at h;split at h
  ·rename_i hi;split at h
   ·rename_i e;cases h;exact⟨Nat.le_refl _,hi,e,fun j h1 h2=>by omega⟩
   ·rename_i e;obtain⟨h1,h2,h3,h4⟩:=A9 l g d (i+1) k h;refine⟨by omega,h2,h3,fun j hj hk=> ?_⟩;by_cases q:j=i
    ·subst q;exact e
    ·exact h4 j (by omega) hk
  ·cases h
theorem A_(l:List bj)(g:Int):∀d i,Cs l g d i=none→∀j,i≤j→j<i+d→(hj:j<l.length)→(l[j]).gid≠g
 |0,i,h,j,h1,h2,hj=>by omega
 |d+1,i,h,j,h1,h2,hj=>by
  simp only[Cs] at h;rw[dif_pos (by omega)] at h;split at h
  ·cases h
  ·rename_i e;by_cases q:j=i
   ·subst q;exact e
   ·exact A_ l g d (i+1) h j (by omega) (by omega) hj
theorem pk{l:List bj}{g:Int}{k:Nat}(h:fX l g=some k):∃h:k<l.length,(l[k]).gid=g∧∀j,(hj:j<k)→(l[j]'(by omega)).gid≠g:=by
 obtain⟨_,h1,h2,h3⟩:=A9 l g _ _ _ h;exact⟨h1,h2,fun j hj=>h3 j (Nat.zero_le _) hj⟩
theorem qL{l:List bj}{g:Int}:fX l g=none↔∀m∈l,m.gid≠g:=by
 constructor
 ·intro h m hm;obtain⟨j,hj,rfl⟩:=bQ hm;exact A_ l g _ _ h j (Nat.zero_le _) (by omega) hj
 ·intro h;cases q:fX l g with
  |none=>rfl
  |some k=>
   obtain⟨h1,h2,_⟩:=pk q;exact(h _ (ax h1) h2).elim
theorem FA{l:List bj}{k:Nat}(hk:k<l.length)(h:∀j,(hj:j<k)→(l[j]'(by omega)).gid≠(l[k]).gid):fX l (l[k]).gid=some k:=by
 cases q:fX l (l[k]).gid with
 |none=>exact(qL.1 q _ (ax hk) rfl).elim
 |some k'=>
  obtain⟨h1,h2,h3⟩:=pk q;rcases Nat.lt_trichotomy k' k with c|c|c
  ·exact(h k' c h2).elim
  ·rw[c]
  ·exact(h3 k c rfl).elim
structure Good (b:bq):Prop where
 gid:1≤b.gid∧b.gid≤9999
 name:nU b.name=true
 st:lA b.time b.eJ=true
 next:1≤b.next∧b.next≤10000
 len:b.ae.length≤10
 gone:ym b.gone
 yP:∀g∈b.gone,1≤g∧g≤9999
 oN:b.gone.length≤40
 FB:∀m∈b.ae,iZ m=true∧m.uid<b.next∧¬m.gid∈b.gone
 KX:b.ae.Pairwise (fun a c=>a.uid<c.uid)
 fk:b.ae.Pairwise (fun a c=>a.gid≠c.gid)
theorem wG{l:List Int}(h:∀j (hj:j+1<l.length),l[j]<l[j+1]):ym l:=by
 have hn:∀j (hj:j<l.length),∀i (hi:i<j),l[i]'(by omega)<l[j]:=by
  intro j
  induction j with
  |zero=>intro _ i hi;omega
  |succ j ih=>
   intro hj i hi;by_cases e:i=j
   ·subst e;exact h i hj
   ·exact Int.lt_trans (ih (by omega) i (by omega)) (h j hj)
 exact List.pairwise_iff_getElem.2 fun i j hi hj hij=>hn j hj i hij
theorem px{l:List Int}{most:Int}:lV l most=true↔ym l∧(∀g∈l,1≤g∧g≤9999)∧(l.length:Int)≤most:=by
 constructor
 ·intro h;exact⟨xp h,(pP h).2,(pP h).1⟩
 ·rintro ⟨h1,h2,h3⟩;simp only[lV,aj,decide_eq_true_eq,ch,jE];refine⟨fun j hj=> ?_,h3⟩;rw[ou hj];have q1:=h2 _ (ax hj);simp only[fT,Bool.not_eq_eq_eq_not,Bool.not_false,Bool.and_eq_false_imp,decide_eq_true_eq,decide_eq_false_iff_not];refine⟨lE.2 q1,fun h0=> ?_⟩;have:=List.pairwise_iff_getElem.1 h1 (j-1) j (by omega) hj (by omega);omega
theorem qq{b:bq}:fA b=true↔Good b:=by
 constructor
 ·intro h;have hv:=j5 h;have hg:=px.1 (xS h);simp only[fA,aj,decide_eq_true_eq,ch,jE] at h;obtain⟨⟨⟨⟨⟨⟨h1,h2⟩,h3⟩,h4⟩,h5⟩,h6⟩,h7⟩:=h;have key:∀i (hi:i<b.ae.length),iZ b.ae[i]=true∧b.ae[i].uid<b.next∧(0<i→b.ae[i-1].uid<b.ae[i].uid)∧fX b.ae b.ae[i].gid=some i∧¬b.ae[i].gid∈b.gone:=by
   intro i hi;have:=h7 i hi;rw[nN hi] at this;simp only[fT,Bool.not_eq_eq_eq_not,Bool.not_false,Bool.and_eq_false_imp,decide_eq_true_eq,decide_eq_false_iff_not] at this;obtain⟨⟨⟨⟨q1,q2⟩,q3⟩,q4⟩,q5⟩:=this;refine⟨q1,by omega,fun h0=>by have:=q3 h0;omega, ?_,q5⟩;cases e:fX b.ae b.ae[i].gid with
   |none=>rw[e] at q4;simp only[dA] at q4;omega
   |some k=>rw[e] at q4;simp only[dA] at q4;rw[show k=i by omega]
  refine⟨lE.1 h1,h2,h3,lE.1 h4,h5,hg.1,hg.2.1,by omega,fun m hm=> ?_, ?_, ?_⟩
  ·obtain⟨j,hj,rfl⟩:=bQ hm;have:=key j hj;exact⟨this.1,this.2.1,this.2.2.2.2⟩
  ·have ha:ym (b.ae.map (·.uid)):=wG fun j hj=>by
    simp only[eM] at hj;have:=(key (j+1) hj).2.2.1 (by omega);simpa using this
   exact List.pairwise_map.1 ha
  ·refine List.pairwise_iff_getElem.2 fun i j hi hj hij e=> ?_
   obtain⟨_,_,h3⟩:=pk (key j hj).2.2.2.1;exact h3 i hij e
 ·intro h;simp only[fA,aj,decide_eq_true_eq,ch,jE];refine⟨⟨⟨⟨⟨⟨lE.2 h.gid,h.name⟩,h.st⟩,lE.2 h.next⟩,h.len⟩,px.2 ⟨h.gone,h.yP,by have:=h.oN;omega⟩⟩,fun i hi=> ?_⟩;rw[nN hi];obtain⟨q1,q2,q3⟩:=h.FB _ (ax hi);simp only[fT,Bool.not_eq_eq_eq_not,Bool.not_false,Bool.and_eq_false_imp,decide_eq_true_eq,decide_eq_false_iff_not];refine⟨⟨⟨⟨q1,by omega⟩,fun h0=> ?_⟩, ?_⟩,q3⟩
  ·have:=List.pairwise_iff_getElem.1 h.KX (i-1) i (by omega) hi (by omega);omega
  ·rw[FA hi fun j hj=>List.pairwise_iff_getElem.1 h.fk j i (by omega) hi hj];rfl
structure G0 (i:Nat) (b:bq):Prop where
 mh:Good b
 m:∀m∈b.ae,10≤m.gid∧m.gid≤18
 g:∀g∈b.gone,10≤g∧g≤18
 nx:b.next≤4+i
 gl:b.gone.length≤i
theorem G0.mono{i j:Nat}{b:bq}(h:G0 i b)(hij:i≤j):G0 j b:=⟨h.mh,h.m,h.g,by have:=h.nx;omega,by have:=h.gl;omega⟩
theorem Good.vz{b:bq}(h:Good b):iw b:=
 ⟨by have:=h.len;omega,by have:=h.oN;omega,by have:=(nK h.name).2;omega,fun m hm=>by have:=(lX (h.FB m hm).1).2.2.1;omega⟩
theorem FX(l:List Int)(x:Int):(la l x).length≤l.length+1:=by
 have h:∀l:List Int,(l.filter (fun y=>decide (y<x))).length+(l.filter (fun y=>decide (x<y))).length≤l.length:=by
  intro l
  induction l with
  |nil=>simp
  |cons a l ih=>
   simp only[iI];by_cases c1:a<x
   ·have c2:¬x<a:=by omega
    simp[c1,c2];omega
   ·by_cases c2:x<a
    ·simp[c1,c2];omega
    ·simp[c1,c2];omega
 have:=h l;simp only[la,aD,bM];omega
theorem pT{α:Type}(l:List α)(k:Nat):(l.take k++l.drop (k+1)).Sublist l:=by
 have e:l=l.take k++l.drop k:=(da k l).symm;have h1:(l.drop (k+1)).Sublist (l.drop k):=by rw[←List.drop_drop];exact List.drop_sublist 1 _
 have h2:=List.Sublist.append (List.Sublist.refl (l.take k)) h1;rw[←e] at h2;exact h2
theorem D4{b:bq}(h:Good b){k:Nat}(hk:k<b.ae.length)(h40:b.gone.length<40):
  Good {b with ae:=b.ae.take k++b.ae.drop (k+1),gone:=la b.gone (b.ae[k]).gid}:=by
 have hs:=pT b.ae k;have hq:=h.FB _ (ax hk);have hv:=(lX hq.1).1;have hgid:1≤(b.ae[k]).gid∧(b.ae[k]).gid≤9999:=by
  have:=hq.1;simp only[iZ,aj] at this;exact lE.1 this.1.1.1
 refine⟨h.gid,h.name,h.st,h.next,by have:=hs.length_le;have:=h.len;simp only;omega,tW h.gone,fun g hg=> ?_,by have:=FX b.gone (b.ae[k]).gid;simp only;omega,fun m hm=> ?_,h.KX.sublist hs,h.fk.sublist hs⟩
 ·rcases qi.1 hg with q|q
  ·rw[q];exact hgid
  ·exact h.yP g q
 ·have hm':=h.FB m (hs.subset hm);refine⟨hm'.1,hm'.2.1,fun c=> ?_⟩;rcases qi.1 c with q|q
  ·rcases List.mem_append.1 hm with z|z
   ·obtain⟨j,hj,rfl⟩:=bQ z;rw[List.getElem_take] at q;have hjk:j<k:=by simp at hj;omega
    exact List.pairwise_iff_getElem.1 h.fk j k (by omega) hk hjk q
   ·obtain⟨j,hj,rfl⟩:=bQ z;rw[List.getElem_drop] at q;exact List.pairwise_iff_getElem.1 h.fk k (k+1+j) hk (by simp at hj;omega) (by omega) q.symm
  ·exact hm'.2.2 q
end Mx
namespace Mx
open Go
variable {M:Nat→Option Body}
theorem Good.flags{b:bq}(h:Good b):∀m∈b.ae,m.flags.length≤4:=fun m hm=>by have:=(lX (h.FB m hm).1).2.2.1;omega
end Mx
namespace Mx
open Go
theorem re(need:Int→Bool):∀(l:List bj) (n:Int),(dZ need n l).1.map (·.gid)=l.map (·.gid)
 |[],n=>rfl
 |m::l,n=>by
  simp only[dZ];split
  ·simp[re need l (n+1)]
  ·simp[re need l n]
theorem m_(need:Int→Bool):∀(l:List bj) (n:Int),n≤(dZ need n l).2∧(dZ need n l).2≤n+l.length
 |[],n=>by simp[dZ]
 |m::l,n=>by
  simp only[dZ,bV];split
  ·have:=m_ need l (n+1);simp only;omega
  ·have:=m_ need l n;simp only;omega
theorem r7(need:Int→Bool):∀(l:List bj) (n:Int) (m:bj),m∈(dZ need n l).1→
  ∃m0∈l,m0.gid=m.gid∧m.flags=m0.flags∧m.text=m0.text∧((need m.gid=true∧n≤m.uid∧m.uid<(dZ need n l).2)∨(need m.gid=false∧m.uid=m0.uid))
 |[],n,m,h=>by simp[dZ] at h
 |a::l,n,m,h=>by
  simp only[dZ] at h ⊢;split at h
  ·rename_i c;rw[if_pos c];rcases List.mem_cons.1 h with rfl|h
   ·exact⟨a,bl ..,rfl,rfl,rfl,.inl ⟨c,by simp only;omega,by have:=(m_ need l (n+1)).1;simp only;omega⟩⟩
   ·obtain⟨m0,h1,h2,h3,h4,h5⟩:=r7 need l (n+1) m h;exact⟨m0,bo _ h1,h2,h3,h4,h5.imp (fun q=>⟨q.1,by omega,q.2.2⟩) id⟩
  ·rename_i c;rw[if_neg c];rcases List.mem_cons.1 h with rfl|h
   ·exact⟨m,bl ..,rfl,rfl,rfl,.inr ⟨by simpa using c,rfl⟩⟩
   ·obtain⟨m0,h1,h2,h3,h4,h5⟩:=r7 need l n m h;exact⟨m0,bo _ h1,h2,h3,h4,h5⟩
def stay(a b:bq):List Int:=(aQ (fk a.ae) (fk b.ae)).filter fun g=> !decide (g∈aQ a.gone b.gone)
theorem Fa{a b:bq}{g:Int}:g∈stay a b↔(g∈fk a.ae∨g∈fk b.ae)∧¬(g∈a.gone∨g∈b.gone):=by
 simp[stay,fO,iQ]
theorem tR{a b:bq}(ha:(fk a.ae).Nodup)(hb:(fk b.ae).Nodup):
  (jk a b).1.Perm (dZ (je a b) (Max.max a.next b.next) ((stay a b).map (nk a.ae b.ae))).1:=by
 rw[←qf ha hb];simp only[oV];rw[Fc ha hb];exact oC _
theorem zC{a b:bq}(ha:(fk a.ae).Nodup)(hb:(fk b.ae).Nodup):(fk (jk a b).1).Perm (stay a b):=by
 have h:=(tR ha hb).map (fun m:bj=>m.gid);rw[re] at h;refine h.trans (List.Perm.of_eq ?_);rw[List.map_map];have:∀l:List Int,(∀g∈l,g∈fk a.ae∨g∈fk b.ae)→l.map ((fun m:bj=>m.gid)∘nk a.ae b.ae)=l:=by
  intro l hl
  induction l with
  |nil=>rfl
  |cons g l ih=>
   rw[bu,ih fun g hg=>hl g (bo _ hg)];simp only[Function.comp];rw[qg (hl g (bl ..))]
 exact this _ fun g hg=>(Fa.1 hg).1
theorem Good.nd{b:bq}(h:Good b):(Mx.fk b.ae).Nodup:=List.pairwise_map.2 h.fk
theorem oz{l:List bj}{g:Int}:fX l g=none↔jV l g=none:=by rw[qL,oD]
theorem mu{l:List bj}{g:Int}{k:Nat}(h:fX l g=some k):∃hk:k<l.length,jV l g=some l[k]:=by
 obtain⟨h1,h2,h3⟩:=pk h;refine⟨h1, ?_⟩;unfold jV;rw[List.find?_eq_some_iff_getElem];exact⟨by simp[h2],k,h1,rfl,fun j hj=>by simpa using h3 j hj⟩
theorem AJ{a b:bq}(ha:(fk a.ae).Nodup)(hb:(fk b.ae).Nodup):a.next≤(jk a b).2∧b.next≤(jk a b).2:=by
 rw[←qf ha hb];simp only[oV];have:=(m_ (je a b) (fc (·.gid) ((allM a.ae b.ae).filter fun m=> !decide (m.gid∈aQ a.gone b.gone))) (Max.max a.next b.next)).1;omega
end Mx
namespace Mx
open Go
variable {M:Nat→Option Body}
theorem gI.ak(h:gI.k M)(m:bj)(G:List Int)(hG:G.length≤4194304):run M 454 [.a (ah m),.c (.vp [ints G] 0)] []=some (.c (.bool (decide (m.gid∈G))),[]):=by
 have h1:=aI.ak h.2 G m.gid (by omega);refine au (b:=gI.m) h.1 ⟨0, ?_⟩;simp only[ints] at h1 ⊢;generalize aA G=g at*;simp (maxSteps:=9^9) [ba,gI.m,gI.b,aa,h1,ah]
def firstM(a b:List bj):List bj:=a.map fun m=>match jV b m.gid with|some y=>iA m y|none=>m
theorem qT(a b:List bj):(firstM a b).length=a.length:=by simp[firstM]
def AL(u2 u3:Nat)(a b:bq)(v:Nat)(rows:List (List T)):List (Nat×Ob):=[(2,⟨u2,7,true,true,[af a]⟩),(3,⟨u3,7,true,true,[af b]⟩),(16,⟨v,4,true,false,rows⟩)]
structure Js where
 i:Nat
 v:Nat
 n:Nat
def Ic(u2 u3:Nat)(a b:bq)(s:Js):St:={t:=[(2,.c (.ptr 2 u2 0 0)),(3,.c (.ptr 3 u3 0 0)),(6,.c (.row 16 s.v 0 s.i)),(18,.c (ae a.ae)),(19,.c (I a.ae.length)),(20,.c (I s.i))],o:=AL u2 u3 a b s.v (((firstM a.ae b.ae).take s.i).map ah),n:=s.n}
def Lq(u2 u3:Nat)(a b:bq)(s:Js):St:={t:=[(2,.c (.ptr 2 u2 0 0)),(3,.c (.ptr 3 u3 0 0)),(6,.c (.row 16 s.v 0 s.i)),(18,.c (ae a.ae)),(19,.c (I a.ae.length)),(20,.c (I s.i)),(21,.c (.bool false))],o:=AL u2 u3 a b s.v (((firstM a.ae b.ae).take s.i).map ah),n:=s.n}
structure Ku (M:Nat→Option Body):Prop where
 holds:jd.k M
 keeps:dE.k M
 gone:fv.k M
 at_:cy.k M
 copy:ei.k M
 join:fu.k M
 del:aC.k M
 c1:gI.k M
 sort:aU.k M
 c2:gH.k M
 c3:gG.k M
theorem Ia(K:Ku M)(k u2 u3:Nat)(a b:bq)(ha:iw a)(hb:iw b)(s:Js)(hs:s.i<a.ae.length):
  ∃v' n',cz (run M) k bR.l0 (Ic u2 u3 a b s)=some (.normal,Ic u2 u3 a b ⟨s.i+1,v',n'⟩):=by
 obtain⟨i,v,n⟩:=s;simp only at hs;have hm:=ha.m;have h1:=cy.ak K.at_ b a.ae[i].gid hb.m;have e5:=cA (i:=i) (by omega);have e6:i+1≤4294967296:=by omega
 have hl:=qT a.ae b.ae;have e7:(((firstM a.ae b.ae).take i).map ah).length=i:=by simp[hl];omega
 have e9:(a.ae.map ah).length=a.ae.length:=by simp
 have e8:((firstM a.ae b.ae).take (i+1)).map ah=((firstM a.ae b.ae).take i).map ah++[ah (firstM a.ae b.ae)[i]]:=by
  rw[hH _ _ (by rw[hl];exact hs),cg];rfl
 have a1:∀hh,(a.ae.map ah)[i]'hh=ah a.ae[i]:=by intro hh;simp
 cases hq:fX b.ae a.ae[i].gid with
 |none=>
  rw[hq] at h1;have h2:=ei.ak K.copy a.ae[i] (ha.f _ (ax hs));have ef:(firstM a.ae b.ae)[i]'(by rw[hl];exact hs)=a.ae[i]:=by
   simp only[firstM,fJ,oz.1 hq]
  rw[ef] at e8;simp only[Ic,AL,e8];simp only[af,ae,ints,dA,ah,iC,jf] at h1 h2 a1 ⊢;generalize List.map ah ((firstM a.ae b.ae).take i)=rr at*;generalize a.ae.map ah=ra at*;generalize b.ae.map ah=rb at*;generalize aA a.gone=ga at*;generalize aA b.gone=gb at*;generalize a.ae[i].flags.map aO=rf at*;simp (maxSteps:=9^9) [bR.l0,aa,setAt,h1,h2,hs,e5,e6,e7,e9,a1,ab]
 |some q=>
  rw[hq] at h1;obtain⟨hq1,hq2⟩:=mu hq;have hf1:=ha.f _ (ax hs);have h3:=fu.ak K.join a.ae[i] b.ae[q] hf1 (hb.f _ (ax hq1));have h2:=ei.ak K.copy (iA a.ae[i] b.ae[q]) (Nat.le_trans (rK _ _) hf1);have ef:(firstM a.ae b.ae)[i]'(by rw[hl];exact hs)=iA a.ae[i] b.ae[q]:=by
   simp only[firstM,fJ,hq2]
  rw[ef] at e8;have e10:(b.ae.map ah).length=b.ae.length:=by simp
  have a2:∀hh,(b.ae.map ah)[q]'hh=ah b.ae[q]:=by intro hh;simp
  simp only[Ic,AL,e8];simp only[af,ae,ints,dA,ah,iC,jf] at h1 h2 h3 a1 a2 ⊢;generalize List.map ah ((firstM a.ae b.ae).take i)=rr at*;generalize a.ae.map ah=ra at*;generalize b.ae.map ah=rb at*;generalize aA a.gone=ga at*;generalize aA b.gone=gb at*;generalize a.ae[i].flags.map aO=rf at*;generalize b.ae[q].flags.map aO=rg at*;generalize (iA a.ae[i] b.ae[q]).flags.map aO=rj at*;simp (maxSteps:=9^9) [bR.l0,aa,setAt,h1,h2,h3,hs,hq1,e5,e6,e7,e9,e10,a1,a2,ab]
theorem J3(k u2 u3:Nat)(a b:bq)(s:Js)(hs:¬s.i<a.ae.length):
  ∃n',cz (run M) k bR.l0 (Ic u2 u3 a b s)=some (.exit 0,Lq u2 u3 a b ⟨s.i,s.v,n'⟩):=by
 obtain⟨i,v,n⟩:=s;simp only at hs;simp only[Ic,Lq,AL];generalize List.map ah ((firstM a.ae b.ae).take i)=rr at*;simp only[af,ae,ints];generalize a.ae.map ah=ra at*;generalize b.ae.map ah=rb at*;simp (maxSteps:=9^9) [bR.l0,aa,hs]
theorem zM(a:bq)(g:Int):holds a g= !(jV a.ae g).isNone:=by
 unfold holds;cases q:fX a.ae g with
 |none=>rw[oz.1 q];rfl
 |some k=>
  obtain⟨_,h⟩:=mu q;rw[h];exact decide_eq_true (Int.natCast_nonneg k)
def pR(a b:List bj)(i:Nat):List bj:=firstM a b++(b.take i).filter fun m=>(jV a m.gid).isNone
theorem EU(a b:List bj):pR a b b.length=allM a b:=by
 unfold pR allM firstM;rw[List.take_length]
 all_goals (congr 1)
theorem Dz(a b:List bj):pR a b 0=firstM a b:=by simp[pR]
theorem ET(a b:List bj)(i:Nat)(hi:i≤b.length):(pR a b i).length≤a.length+i:=by
 have:=bG (fun m:bj=>(jV a m.gid).isNone) (b.take i);simp only[pR,aD,qT];simp at this;omega
def H_(u2 u3:Nat)(a b:bq)(s:Js):St:={t:=[(2,.c (.ptr 2 u2 0 0)),(3,.c (.ptr 3 u3 0 0)),(6,.c (.row 16 s.v 0 (pR a.ae b.ae s.i).length)),(44,.c (ae b.ae)),(45,.c (I b.ae.length)),(46,.c (I s.i))],o:=AL u2 u3 a b s.v ((pR a.ae b.ae s.i).map ah),n:=s.n}
def Lp(u2 u3:Nat)(a b:bq)(s:Js):St:={t:=[(2,.c (.ptr 2 u2 0 0)),(3,.c (.ptr 3 u3 0 0)),(6,.c (.row 16 s.v 0 (pR a.ae b.ae s.i).length)),(44,.c (ae b.ae)),(45,.c (I b.ae.length)),(46,.c (I s.i)),(47,.c (.bool false))],o:=AL u2 u3 a b s.v ((pR a.ae b.ae s.i).map ah),n:=s.n}
theorem H8(K:Ku M)(k u2 u3:Nat)(a b:bq)(ha:iw a)(hb:iw b)(s:Js)(hs:s.i<b.ae.length):
  ∃v' n',cz (run M) k bR.l1 (H_ u2 u3 a b s)=some (.normal,H_ u2 u3 a b ⟨s.i+1,v',n'⟩):=by
 obtain⟨i,v,n⟩:=s;simp only at hs;have hma:=ha.m;have hm:=hb.m;have h1:=jd.ak K.holds a b.ae[i].gid ha.m;have e5:=cA (i:=i) (by omega);have hl:=ET a.ae b.ae i (by omega);have e7:((pR a.ae b.ae i).map ah).length=(pR a.ae b.ae i).length:=by simp
 have e6:(pR a.ae b.ae i).length+1≤4294967296:=by omega
 have e9:(b.ae.map ah).length=b.ae.length:=by simp
 have a1:∀hh,(b.ae.map ah)[i]'hh=ah b.ae[i]:=by intro hh;simp
 have eu:pR a.ae b.ae (i+1)=pR a.ae b.ae i++if holds a b.ae[i].gid=true then [] else [b.ae[i]]:=by
  simp only[pR,hH _ _ hs,List.filter_append,b4,zM];cases q:(jV a.ae b.ae[i].gid).isNone<;>simp[q]
 cases hq:holds a b.ae[i].gid with
 |true=>
  rw[hq] at h1 eu;simp only[if_true,cR] at eu;simp only[H_,AL,eu];simp only[af,ae,ints,ah,jf] at h1 a1 ⊢;generalize List.map ah (pR a.ae b.ae i)=rr at*;generalize (pR a.ae b.ae i).length=nr at*;generalize a.ae.map ah=ra at*;generalize b.ae.map ah=rb at*;generalize aA a.gone=ga at*;generalize aA b.gone=gb at*;generalize b.ae[i].flags.map aO=rf at*;simp (maxSteps:=9^9) [bR.l1,setAt,h1,hs,e5,e9,a1,ab]
 |false=>
  rw[hq] at h1 eu;simp only[aB,if_false] at eu;have h2:=ei.ak K.copy b.ae[i] (hb.f _ (ax hs));simp only[H_,AL,eu,cg,bu,bS,aD,bM];simp only[af,ae,ints,ah,iC,jf] at h1 h2 a1 ⊢;generalize List.map ah (pR a.ae b.ae i)=rr at*;generalize (pR a.ae b.ae i).length=nr at*;generalize a.ae.map ah=ra at*;generalize b.ae.map ah=rb at*;generalize aA a.gone=ga at*;generalize aA b.gone=gb at*;generalize b.ae[i].flags.map aO=rf at*;simp (maxSteps:=9^9) [bR.l1,setAt,h1,h2,hs,e5,e6,e7,e9,a1,ab]
theorem J2(k u2 u3:Nat)(a b:bq)(s:Js)(hs:¬s.i<b.ae.length):
  ∃n',cz (run M) k bR.l1 (H_ u2 u3 a b s)=some (.exit 2,Lp u2 u3 a b ⟨s.i,s.v,n'⟩):=by
 obtain⟨i,v,n⟩:=s;simp only at hs;simp only[H_,Lp,AL];generalize List.map ah (pR a.ae b.ae i)=rr at*;simp only[af,ae,ints];generalize a.ae.map ah=ra at*;generalize b.ae.map ah=rb at*;simp (maxSteps:=9^9) [bR.l1,hs]
def nB(need:Int→Bool)(nx:Int)(l:List bj)(i:Nat):List bj:=(dZ need nx (l.take i)).1++l.drop i
def qu(need:Int→Bool)(nx:Int)(l:List bj)(i:Nat):Int:=(dZ need nx (l.take i)).2
theorem q_(need:Int→Bool)(m:bj):∀(l:List bj) (n:Int),dZ need n (l++[m])=if need m.gid=true then((dZ need n l).1++[{m with uid:=(dZ need n l).2}],(dZ need n l).2+1) else((dZ need n l).1++[m],(dZ need n l).2)
 |[],n=>by simp[dZ]
 |a::l,n=>by
  simp only[List.cons_append,dZ,q_ need m l];by_cases c:need a.gid=true<;>by_cases c2:need m.gid=true<;>simp[c,c2]
theorem kH(need:Int→Bool):∀(l:List bj) (n:Int),(dZ need n l).1.length=l.length
 |[],n=>rfl
 |a::l,n=>by
  simp only[dZ];split<;>simp[kH need l]
theorem sA(need:Int→Bool)(nx:Int)(l:List bj)(i:Nat):(nB need nx l i).length=l.length:=by
 simp only[nB,aD,kH,gd,List.length_drop];omega
theorem Gs(need:Int→Bool)(nx:Int)(l:List bj)(i:Nat)(h:i<l.length):(nB need nx l i)[i]'(by rw[sA];exact h)=l[i]:=by
 have e:(dZ need nx (l.take i)).1.length=i:=by rw[kH];simp;omega
 simp only[nB];rw[List.getElem_append_right (by omega)];simp[e]
theorem Cv(need:Int→Bool)(nx:Int)(l:List bj)(i:Nat)(h:i<l.length):
  nB need nx l (i+1)=if need l[i].gid=true then(nB need nx l i).set i {l[i] with uid:=qu need nx l i} else nB need nx l i:=by
 have e:(dZ need nx (l.take i)).1.length=i:=by rw[kH];simp;omega
 have hd:l.drop i=l[i]::l.drop (i+1):=bA h;simp only[nB,qu,hH l i h,q_];by_cases c:need l[i].gid=true
 ·rw[if_pos c,if_pos c,List.set_append_right _ _ (by omega),e,Nat.sub_self];simp;rw[hd];rfl
 ·rw[if_neg c,if_neg c,hd];simp
theorem Ek(need:Int→Bool)(nx:Int)(l:List bj)(i:Nat)(h:i<l.length):qu need nx l (i+1)=if need l[i].gid=true then qu need nx l i+1 else qu need nx l i:=by
 simp only[qu,hH l i h,q_];split<;>rfl
theorem Cw(need:Int→Bool)(nx:Int)(l:List bj)(i:Nat):nx≤qu need nx l i∧qu need nx l i≤nx+l.length:=by
 have h:=m_ need (l.take i) nx;simp only[qu];have:(l.take i).length≤l.length:=by simp;omega
 omega
structure Mo where
 i:Nat
 v:Nat
 n:Nat
def Ji(u2 u3:Nat)(a b:bq)(need:Int→Bool)(nx:Int)(l:List bj)(Z:List (List T))(s:Mo):St:={t:=[(2,.c (.ptr 2 u2 0 0)),(3,.c (.ptr 3 u3 0 0)),(6,.c (.row 16 s.v 0 l.length)),(13,.c (I (qu need nx l s.i))),(76,.c (.row 16 s.v 0 l.length)),(77,.c (I l.length)),(78,.c (I s.i))],o:=AL u2 u3 a b s.v ((nB need nx l s.i).map ah++Z),n:=s.n}
def Lo(u2 u3:Nat)(a b:bq)(need:Int→Bool)(nx:Int)(l:List bj)(Z:List (List T))(s:Mo):St:={t:=[(2,.c (.ptr 2 u2 0 0)),(3,.c (.ptr 3 u3 0 0)),(6,.c (.row 16 s.v 0 l.length)),(13,.c (I (qu need nx l s.i))),(76,.c (.row 16 s.v 0 l.length)),(77,.c (I l.length)),(78,.c (I s.i)),(79,.c (.bool false))],o:=AL u2 u3 a b s.v ((nB need nx l s.i).map ah++Z),n:=s.n}
theorem H6(K:Ku M)(k u2 u3:Nat)(a b:bq)(ha:iw a)(hb:iw b)(nx:Int)(hnx: -1000000000≤nx∧nx≤4611686018427387904)(l:List bj)(hl:l.length≤1048576)(Z:List (List T))(s:Mo)(hs:s.i<l.length):
  ∃n',cz (run M) k bR.l2 (Ji u2 u3 a b (je a b) nx l Z s)=some (.normal,Ji u2 u3 a b (je a b) nx l Z ⟨s.i+1,s.v,n'⟩):=by
 obtain⟨i,v,n⟩:=s;simp only at hs;have h1:=jd.ak K.holds a l[i].gid ha.m;have h2:=jd.ak K.holds b l[i].gid hb.m;have h3:=dE.ak K.keeps a b l[i].gid ha.m hb.m;have h4:=dE.ak K.keeps b a l[i].gid hb.m ha.m;have e5:=cA (i:=i) (by omega);have hr:=Cw (je a b) nx l i;have e6:IntKind.i64.wrap (qu (je a b) nx l i+1)=qu (je a b) nx l i+1:=wrap_i64 (by omega) (by omega);have e7:i<((nB (je a b) nx l i).map ah++Z).length:=by simp[sA];omega
 have a1:∀hh,((nB (je a b) nx l i).map ah++Z)[i]'hh=ah l[i]:=by
  intro hh;rw[List.getElem_append_left (by simp[sA];omega)];simp only[fJ,Gs _ _ _ _ hs]
 have t1:=Cv (je a b) nx l i hs;have t2:=Ek (je a b) nx l i hs;have t3:((nB (je a b) nx l (i+1)).map ah++Z)=if je a b l[i].gid=true then((nB (je a b) nx l i).map ah++Z).set i (ah {l[i] with uid:=qu (je a b) nx l i}) else(nB (je a b) nx l i).map ah++Z:=by
  rw[t1];split
  ·rw[iE,List.set_append_left _ _ (by simp[sA];omega)]
  ·rfl
 simp only[Ji,AL,t2,t3];have hn:je a b l[i].gid=(holds a l[i].gid&& !jm a b l[i].gid||holds b l[i].gid&& !jm b a l[i].gid):=rfl;rw[hn];clear hn t1 t2 t3;generalize (nB (je a b) nx l i).map ah++Z=rr at*;generalize qu (je a b) nx l i=z at*;generalize holds a l[i].gid=p1 at*;generalize holds b l[i].gid=p2 at*;generalize jm a b l[i].gid=p3 at*;generalize jm b a l[i].gid=p4 at*;simp only[af,ae,ints,ah,jf] at h1 h2 h3 h4 a1 ⊢;generalize a.ae.map ah=ra at*;generalize b.ae.map ah=rb at*;generalize aA a.gone=ga at*;generalize aA b.gone=gb at*;generalize l[i]=m at*;generalize m.flags.map aO=rf at*;generalize l.length=N at*;cases p1<;>cases p2<;>cases p3<;>cases p4<;>simp (maxSteps:=9^9) [bR.l2,setAt,h1,h2,h3,h4,hs,e5,e6,e7,a1,ab]
theorem J1(k u2 u3:Nat)(a b:bq)(need:Int→Bool)(nx:Int)(l:List bj)(Z:List (List T))(s:Mo)(hs:¬s.i<l.length):
  ∃n',cz (run M) k bR.l2 (Ji u2 u3 a b need nx l Z s)=some (.exit 4,Lo u2 u3 a b need nx l Z ⟨s.i,s.v,n'⟩):=by
 obtain⟨i,v,n⟩:=s;simp only at hs;simp only[Ji,Lo,AL];generalize (nB need nx l i).map ah++Z=rr at*;generalize qu need nx l i=z at*;simp only[af,ae,ints];generalize a.ae.map ah=ra at*;generalize b.ae.map ah=rb at*;simp (maxSteps:=9^9) [bR.l2,hs]
theorem Cu(need:Int→Bool)(nx:Int)(l:List bj):nB need nx l 0=l:=by simp[nB,dZ]
theorem Ej(need:Int→Bool)(nx:Int)(l:List bj):qu need nx l 0=nx:=by simp[qu,dZ]
theorem Ei(need:Int→Bool)(nx:Int)(l:List bj):nB need nx l l.length=(dZ need nx l).1:=by simp[nB]
theorem Gt(need:Int→Bool)(nx:Int)(l:List bj):qu need nx l l.length=(dZ need nx l).2:=by simp[qu]
theorem Cb(a b:List bj):(firstM a b).take a.length=firstM a b:=ab (by rw[qT];exact Nat.le_refl _)
theorem Ib(K:Ku M)(k u2 u3:Nat)(a b:bq)(ha:iw a)(hb:iw b)(v n:Nat)(hk:a.ae.length<k):
  ∃v' n',fx (cz (run M) k bR.l0) k (Ic u2 u3 a b ⟨0,v,n⟩)=some (.exit 0,Lq u2 u3 a b ⟨a.ae.length,v',n'⟩):=by
 obtain⟨r,hr,⟨⟨i,v',n'⟩,rfl,hi⟩⟩:=lN (f:=cz (run M) k bR.l0) (Ic u2 u3 a b) (fun s=>s.i≤a.ae.length) (fun s=>a.ae.length-s.i) (fun r=>∃s',r=(.exit 0,Lq u2 u3 a b s')∧s'.i=a.ae.length)
  (fun s hs=>by
   by_cases c:s.i<a.ae.length
   ·left;obtain⟨v',n',hh⟩:=Ia K k u2 u3 a b ha hb s c;exact⟨_,hh,by simp only;omega,by simp only;omega⟩
   ·right;obtain⟨n',hh⟩:=J3 (M:=M) k u2 u3 a b s c;exact⟨_,hh,by simp,_,rfl,by simp only;omega⟩) k ⟨0,v,n⟩ (by simp) (by simp only;omega)
 simp only at hi;subst hi;exact⟨v',n',hr⟩
theorem H9(K:Ku M)(k u2 u3:Nat)(a b:bq)(ha:iw a)(hb:iw b)(v n:Nat)(hk:b.ae.length<k):
  ∃v' n',fx (cz (run M) k bR.l1) k (H_ u2 u3 a b ⟨0,v,n⟩)=some (.exit 2,Lp u2 u3 a b ⟨b.ae.length,v',n'⟩):=by
 obtain⟨r,hr,⟨⟨i,v',n'⟩,rfl,hi⟩⟩:=lN (f:=cz (run M) k bR.l1) (H_ u2 u3 a b) (fun s=>s.i≤b.ae.length) (fun s=>b.ae.length-s.i) (fun r=>∃s',r=(.exit 2,Lp u2 u3 a b s')∧s'.i=b.ae.length)
  (fun s hs=>by
   by_cases c:s.i<b.ae.length
   ·left;obtain⟨v',n',hh⟩:=H8 K k u2 u3 a b ha hb s c;exact⟨_,hh,by simp only;omega,by simp only;omega⟩
   ·right;obtain⟨n',hh⟩:=J2 (M:=M) k u2 u3 a b s c;exact⟨_,hh,by simp,_,rfl,by simp only;omega⟩) k ⟨0,v,n⟩ (by simp) (by simp only;omega)
 simp only at hi;subst hi;exact⟨v',n',hr⟩
theorem H7(K:Ku M)(k u2 u3:Nat)(a b:bq)(ha:iw a)(hb:iw b)(nx:Int)(hnx: -1000000000≤nx∧nx≤4611686018427387904)(l:List bj)(hl:l.length≤1048576)(Z:List (List T))(v n:Nat)(hk:l.length<k):
  ∃n',fx (cz (run M) k bR.l2) k (Ji u2 u3 a b (je a b) nx l Z ⟨0,v,n⟩)=some (.exit 4,Lo u2 u3 a b (je a b) nx l Z ⟨l.length,v,n'⟩):=by
 obtain⟨r,hr,⟨⟨i,v',n'⟩,rfl,hi,hv⟩⟩:=lN (f:=cz (run M) k bR.l2) (Ji u2 u3 a b (je a b) nx l Z) (fun s=>s.i≤l.length∧s.v=v) (fun s=>l.length-s.i) (fun r=>∃s',r=(.exit 4,Lo u2 u3 a b (je a b) nx l Z s')∧s'.i=l.length∧s'.v=v)
  (fun s hs=>by
   by_cases c:s.i<l.length
   ·left;obtain⟨n',hh⟩:=H6 K k u2 u3 a b ha hb nx hnx l hl Z s c;exact⟨_,hh,⟨by simp only;omega,hs.2⟩,by simp only;omega⟩
   ·right;obtain⟨n',hh⟩:=J1 (M:=M) k u2 u3 a b (je a b) nx l Z s c;have:=hs.1;exact⟨_,hh,by simp,_,rfl,by simp only;omega,hs.2⟩) k ⟨0,v,n⟩ ⟨by simp,rfl⟩ (by simp only;omega)
 simp only at hi hv;subst hi;subst hv;exact⟨n',hr⟩
theorem zO(l:List Int)(x:Int):(la l x).length≤l.length+1:=by
 have h:∀l:List Int,(l.filter (fun y=>decide (y<x))).length+(l.filter (fun y=>decide (x<y))).length≤l.length:=by
  intro l
  induction l with
  |nil=>simp
  |cons a l ih=>
   simp only[iI];by_cases c1:a<x
   ·have c2:¬x<a:=by omega
    simp[c1,c2];omega
   ·by_cases c2:x<a
    ·simp[c1,c2];omega
    ·simp[c1,c2];omega
 have:=h l;simp only[la,aD,bM];omega
theorem kF(a b:List Int):(aQ a b).length≤a.length+b.length:=by
 have key:∀(l acc:List Int),(l.foldl kz acc).length≤l.length+acc.length:=by
  intro l
  induction l with
  |nil=>intro acc;simp
  |cons x l ih=>
   intro acc;have h1:=ih (kz acc x);have h2:(kz acc x).length≤acc.length+1:=by
    unfold kz;split
    ·omega
    ·exact zO acc x
   simp only[eN,bV];omega
 have:=key (a++b) [];simp only[aD,dy] at this;exact this
theorem zx(a b:Int):Max.max a b=if a<b then b else a:=by split<;>omega
theorem bR.ak(h:bR.k M)(a b:bq)(ha:iw a)(hb:iw b)(hall:(allM a.ae b.ae).length≤20)(hna: -1000000000≤a.next∧a.next≤4611686018427387904)(hnb: -1000000000≤b.next∧b.next≤4611686018427387904):
  run M 437 [.a (af a),.a (af b)] []=some (.lM [.c (.sl true 4 ((oV a b).1.map ah)),.c (I (oV a b).2)],[]):=by
 obtain⟨h0,kh,kk,kg,ka,kc,kj,kd,k1,ks,k2,k3⟩:=h;have K:Ku M:=⟨kh,kk,kg,ka,kc,kj,kd,k1,ks,k2,k3⟩;have hma:=ha.m;have hmb:=hb.m;refine au (b:=bR.m) h0 ⟨a.ae.length+b.ae.length+21, ?_⟩;generalize hk:a.ae.length+b.ae.length+21=k;obtain⟨v1,n1,r1⟩:=Ib K k 2000000 2000016 a b ha hb 2000064 2000160 (by omega);obtain⟨v2,n2,r2⟩:=H9 K k 2000000 2000016 a b ha hb v1 (n1+64) (by omega);have h4:=fv.ak kg a.gone b.gone ha.g hb.g;have hG:(aQ a.gone b.gone).length≤4194304:=by
  have:=kF a.gone b.gone;have:=ha.g;have:=hb.g;omega
 have hc1:=fun m=>gI.ak k1 m (aQ a.gone b.gone) hG
 have h5:=aC.ak kd hc1 (allM a.ae b.ae) (by omega);have hkl:((allM a.ae b.ae).filter fun m=> !decide (m.gid∈aQ a.gone b.gone)).length≤(allM a.ae b.ae).length:=bG _ _;have h6:=aU.ak ks (k:=fun m:bj=>m.gid) (gH.ak k2) ((allM a.ae b.ae).filter fun m=> !decide (m.gid∈aQ a.gone b.gone)) (List.replicate ((allM a.ae b.ae).length-((allM a.ae b.ae).filter fun m=> !decide (m.gid∈aQ a.gone b.gone)).length) sQ) (by omega);have hj:oV a b=(fc (·.uid) (dZ (je a b) (Max.max a.next b.next) (fc (·.gid) ((allM a.ae b.ae).filter fun m=> !decide (m.gid∈aQ a.gone b.gone)))).1,(dZ (je a b) (Max.max a.next b.next) (fc (·.gid) ((allM a.ae b.ae).filter fun m=> !decide (m.gid∈aQ a.gone b.gone)))).2):=rfl;rw[hj];have el0:((allM a.ae b.ae).map ah).length=(allM a.ae b.ae).length:=by simp
 have eF:firstM a.ae b.ae=firstM a.ae b.ae:=rfl;have hfl:=qT a.ae b.ae;simp only[Ic,Lq,AL,List.take_zero,bS,Cb] at r1;simp only[H_,Lp,AL,Dz,EU,hfl] at r2;simp only[rJ,cR] at h5 h6;generalize hz:List.replicate ((allM a.ae b.ae).length-((allM a.ae b.ae).filter fun m=> !decide (m.gid∈aQ a.gone b.gone)).length) sQ=Z at*;generalize hl1:((allM a.ae b.ae).filter fun m=> !decide (m.gid∈aQ a.gone b.gone))=l1 at*;have hl2:(fc (fun m:bj=>m.gid) l1).length=l1.length:=iK _;generalize hs2:fc (fun m:bj=>m.gid) l1=l2 at*;obtain⟨n3,r3⟩:=H7 K k 2000000 2000016 a b ha hb (Max.max a.next b.next) (by omega) l2 (by omega) Z v2 (n2+112+64+32+96+48) (by omega);have h7:=aU.ak ks (k:=fun m:bj=>m.uid) (gG.ak k3) (dZ (je a b) (Max.max a.next b.next) l2).1 Z (by rw[kH];omega);rw[kH] at h7;simp only[Ji,Lo,AL,Cu,Ej,Ei,Gt] at r3;simp only[rJ] at h7;have el1:l1.length≤(l1.map ah++Z).length:=by simp
 have el2:l2.length≤(l2.map ah++Z).length:=by simp
 have el3:l2.length≤((dZ (je a b) (Max.max a.next b.next) l2).1.map ah++Z).length:=by simp[kH]
 have el4:l2.length≤((fc (fun m:bj=>m.uid) (dZ (je a b) (Max.max a.next b.next) l2).1).map ah++Z).length:=by simp[iK,kH]
 have el5:(((fc (fun m:bj=>m.uid) (dZ (je a b) (Max.max a.next b.next) l2).1).map ah++Z).take l2.length)=(fc (fun m:bj=>m.uid) (dZ (je a b) (Max.max a.next b.next) l2).1).map ah:=by
  rw[List.take_append_of_le_length (by simp[iK,kH])];exact ab (by simp[iK,kH])
 have em:=zx a.next b.next;have ea:(a.ae.map ah).length=a.ae.length:=by simp
 have eb:(b.ae.map ah).length=b.ae.length:=by simp
 have ez:((0:Nat):Int)=0:=rfl;simp only[ez] at r1 r2 r3;generalize (dZ (je a b) (Max.max a.next b.next) l2).2=nz at*;simp only;generalize (fc (fun m:bj=>m.uid) (dZ (je a b) (Max.max a.next b.next) l2).1).map ah=R4 at*;generalize R4++Z=R4Z at*;generalize (dZ (je a b) (Max.max a.next b.next) l2).1.map ah++Z=R3Z at*;generalize hmx:Max.max a.next b.next=mx at*;generalize l2.map ah++Z=R2Z at*;generalize l1.map ah++Z=R1Z at*;rw[hl2] at*;clear hl1 hs2 hz hj hc1 K;generalize (allM a.ae b.ae).map ah=R0 at*;generalize (allM a.ae b.ae).length=N0 at*;generalize (firstM a.ae b.ae).map ah=RF at*;generalize l1.length=N1 at*;simp only[af,ae,ints] at*;generalize a.ae.map ah=ra at*;generalize b.ae.map ah=rb at*;generalize aA (aQ a.gone b.gone)=gj at*;generalize aA a.gone=ga at*;generalize aA b.gone=gb at*;by_cases c:a.next<b.next
 ·rw[if_pos c] at em;subst em;simp (maxSteps:=9^9) [ba,bR.m,bR.b,aa,setAt,r1,r2,r3,h4,h5,h6,h7,c,ea,eb,el0,el1,el3,el4,el5]
 ·rw[if_neg c] at em;subst em;simp (maxSteps:=9^9) [ba,bR.m,bR.b,aa,setAt,r1,r2,r3,h4,h5,h6,h7,c,ea,eb,el0,el1,el3,el4,el5]
structure xY (a b:bq):Prop where
 ia:iw a
 ib:iw b
 ga:a.gone.length≤500000
 gb:b.gone.length≤500000
 na:(fk a.ae).Nodup
 nb:(fk b.ae).Nodup
 all:(allM a.ae b.ae).length≤20
 xa: -1000000000≤a.next∧a.next≤1000000000
 xb: -1000000000≤b.next∧b.next≤1000000000
theorem tQ{a b:bq}(h:xY a b):(jk a b).1.length≤20:=by
 rw[←qf h.na h.nb];simp only[oV,iK,kH];exact Nat.le_trans (bG _ _) h.all
theorem gE.ak(h:gE.k M)(a b:bq)(H:xY a b):run M 401 [.a (af a),.a (af b)] []=some (.a (b7 (gY a b)),[]):=by
 obtain⟨h0,kg,kc,kl,kj⟩:=h;have h1:=cm.ak kc a H.ia;have h2:=fv.ak kg a.gone b.gone H.ia.g H.ib.g;have h3:=fV.ak kl b.time b.eJ a.time a.eJ;have h4:=fV.ak kl a.time a.eJ b.time b.eJ;have h5:=bR.ak kj a b H.ia H.ib H.all (by have:=H.xa;omega) (by have:=H.xb;omega);rw[qf H.na H.nb] at h5;have e1:(aQ a.gone b.gone).length≤4194304:=by
  have:=kF a.gone b.gone;have:=H.ia.g;have:=H.ib.g;omega
 have e2:=aS (aQ a.gone b.gone);have e3:((jk a b).1.map ah).length=(jk a b).1.length:=by simp
 have e4:(a.ae.map ah).length=a.ae.length:=by simp
 have e5:=aS a.gone;have e6:=uT a.name b.name;refine au (b:=gE.m) h0 ⟨0, ?_⟩;unfold gY;by_cases c:a.gid=b.gid
 ·rw[if_pos c];generalize lh b.time b.eJ a.time a.eJ=x at*;generalize lh a.time a.eJ b.time b.eJ=y at*;generalize hw:jH a.name b.name=w at*;clear hw;simp only[af,b7,ae,ints] at*;generalize (jk a b).1.map ah=rj at*;generalize (jk a b).1.length=nj at*;generalize (jk a b).2=xj at*;generalize aA (aQ a.gone b.gone)=gj at*;generalize a.ae.map ah=ra at*;generalize b.ae.map ah=rb at*;generalize aA a.gone=ga at*;generalize aA b.gone=gb at*;rw[c] at h5;cases x<;>cases y<;>cases w<;>simp (maxSteps:=9^9) [ba,gE.m,gE.b,aa,setAt,h2,h3,h4,h5,c,e2,e3,e6,ab]
 ·rw[if_neg c];simp only[af,b7,ae,ints] at*;generalize a.ae.map ah=ra at*;generalize b.ae.map ah=rb at*;generalize aA a.gone=ga at*;generalize aA b.gone=gb at*;simp (maxSteps:=9^9) [ba,gE.m,gE.b,aa,setAt,h1,c,e4,e5,ab]
theorem zB{a b:bq}(H:xY a b):∀m∈(jk a b).1,m.flags.length≤1048576:=by
 intro m hm;obtain⟨m0,h1,h2,h3,_,_⟩:=r7 _ _ _ m ((tR H.na H.nb).mem_iff.1 hm);obtain⟨g,hg,rfl⟩:=List.mem_map.1 h1;rw[h3];unfold nk;cases q1:jV a.ae g with
 |some x=>
  have hx:=H.ia.f x (mS q1).1;cases q2:jV b.ae g with
  |some y=>exact Nat.le_trans (rK _ _) hx
  |none=>exact hx
 |none=>
  cases q2:jV b.ae g with
  |some y=>exact H.ib.f y (mS q2).1
  |none=>simp
theorem td{a b:bq}(H:xY a b):iw (gY a b):=by
 unfold gY;split
 ·refine⟨by have:=tQ H;simp only;omega, ?_, ?_,zB H⟩
  ·have:=kF a.gone b.gone;have:=H.ga;have:=H.gb;simp only;omega
  ·simp only;split
   ·exact H.ib.n
   ·exact H.ia.n
 ·exact H.ia
theorem Dr(a b:List bj):(allM a b).length≤a.length+b.length:=by
 have:=bG (fun m:bj=>(jV a m.gid).isNone) b;simp only[allM,aD,eM];omega
theorem Good.AI{a b:bq}(ha:Good a)(hb:Good b):xY a b:=
 ⟨ha.vz,hb.vz,by have:=ha.oN;omega,by have:=hb.oN;omega,ha.nd,hb.nd,by have:=Dr a.ae b.ae;have:=ha.len;have:=hb.len;omega,by have:=ha.next;omega,by have:=hb.next;omega⟩
theorem gS.ak(h:gS.k M)(a b:bq):run M 459 [.a (af a),.a (af b)] []=some (.c (I (Max.max a.next b.next)),[]):=by
 refine au (b:=gS.m) h ⟨0, ?_⟩;have e:Max.max a.next b.next=if b.next<a.next then a.next else b.next:=by split<;>omega
 rw[e];simp only[af,ae,ints];by_cases c:b.next<a.next
 ·simp (maxSteps:=9^9) [ba,gS.m,gS.b,aa,c]
 ·simp (maxSteps:=9^9) [ba,gS.m,gS.b,aa,c]
theorem qJ(p:bj→Bool):∀(l s:List bj),l.foldl (fun s a=>if p a=true then s++[a] else s) s=s++l.filter p
 |[],s=>by simp
 |a::l,s=>by
  rw[eN,qJ p l,iI];by_cases h:p a=true<;>simp[h]
def Lg(l:List bj)(m:bj)(i:Nat)(s:List bj)(x:Nat×Nat):St:={t:=[(0,.c (ae l)),(3,.c (.ptr 3 2000000 0 0)),(5,.c (.row 8 x.1 0 s.length)),(6,.c (I i))],o:=[(3,⟨2000000,4,true,true,[ah m]⟩),(8,⟨x.1,4,true,false,s.map ah⟩)],n:=x.2}
def MQ(l:List bj)(m:bj)(s:List bj)(x:Nat×Nat):St:={t:=[(0,.c (ae l)),(3,.c (.ptr 3 2000000 0 0)),(5,.c (.row 8 x.1 0 s.length)),(6,.c (I l.length)),(12,.c (.bool false))],o:=[(3,⟨2000000,4,true,true,[ah m]⟩),(8,⟨x.1,4,true,false,s.map ah⟩)],n:=x.2}
def Lf(l:List bj)(m:bj)(i:Nat)(s:List bj)(x:Nat×Nat):St:={t:=[(0,.c (ae l)),(3,.c (.ptr 3 2000000 0 0)),(5,.c (.row 8 x.1 0 s.length)),(7,.c (I i))],o:=[(3,⟨2000000,4,true,true,[ah m]⟩),(8,⟨x.1,4,true,false,s.map ah⟩)],n:=x.2}
def MP(l:List bj)(m:bj)(s:List bj)(x:Nat×Nat):St:={t:=[(0,.c (ae l)),(3,.c (.ptr 3 2000000 0 0)),(5,.c (.row 8 x.1 0 s.length)),(7,.c (I l.length)),(37,.c (.bool false))],o:=[(3,⟨2000000,4,true,true,[ah m]⟩),(8,⟨x.1,4,true,false,s.map ah⟩)],n:=x.2}
theorem cK.ak(h:cK.k M)(l:List bj)(m:bj)(hl:l.length≤16777216):run M 462 [.c (ae l),.a (ah m)] []=some (.c (.sl true 4 ((iB (·.uid) l m).map ah)),[]):=by
 refine au (b:=cK.m) h ⟨l.length+1, ?_⟩;have hrow:(l.map ah).length=l.length:=by simp
 have hat:∀i (hi:i<l.length) hh,(l.map ah)[i]'hh=ah l[i]:=by intro i hi hh;simp
 obtain⟨g,hr⟩:=jB (f:=cz (run M) (l.length+1) cK.l0) l (fun s a=>if decide (a.uid≤m.uid)=true then s++[a] else s) (fun i s=>s.length≤i) (Lg l m) 0 (MQ l m)
  (fun i h s hs=>by split<;>(try simp)<;>omega)
  (fun i hi s x hs=>by
   obtain⟨v,n⟩:=x;have e5:=cA (i:=i) (by omega);have e6:s.length+1≤4294967296:=by omega
   have e9:(s.map ah).length=s.length:=by simp
   have a1:=hat i hi;simp only[aE];by_cases c:l[i].uid≤m.uid
   ·simp only[c,decide_true,if_true,Lg,cg,bu,bS,aD,bM];simp only[ae,ah,jf] at a1 ⊢;generalize s.map ah=rr at*;generalize l.map ah=rl at*;generalize l[i].flags.map aO=rf at*;simp (maxSteps:=9^9) [cK.l0,aa,hi,hrow,a1,c,e5,e6,e9,ab]
   ·simp only[c,decide_false,aB,if_false,Lg];simp only[ae,ah,jf] at a1 ⊢;generalize s.map ah=rr at*;generalize l.map ah=rl at*;generalize l[i].flags.map aO=rf at*;simp (maxSteps:=9^9) [cK.l0,aa,hi,hrow,a1,c,e5])
  (fun s x hs=>by
   obtain⟨v,n⟩:=x;simp only[aE,Lg,MQ,ae];generalize l.map ah=rl at*;simp (maxSteps:=9^9) [cK.l0,aa,hrow]) [] (by simp)
 obtain⟨g',hr'⟩:=jB (f:=cz (run M) (l.length+1) cK.l1) l (fun s a=>if decide (m.uid<a.uid)=true then s++[a] else s) (fun i s=>s.length≤l.length+1+i) (Lf l m) 2 (MP l m)
  (fun i h s hs=>by split<;>(try simp)<;>omega)
  (fun i hi s x hs=>by
   obtain⟨v,n⟩:=x;have e5:=cA (i:=i) (by omega);have e6:s.length+1≤4294967296:=by omega
   have e9:(s.map ah).length=s.length:=by simp
   have a1:=hat i hi;simp only[aE];by_cases c:m.uid<l[i].uid
   ·simp only[c,decide_true,if_true,Lf,cg,bu,bS,aD,bM];simp only[ae,ah,jf] at a1 ⊢;generalize s.map ah=rr at*;generalize l.map ah=rl at*;generalize l[i].flags.map aO=rf at*;simp (maxSteps:=9^9) [cK.l1,aa,hi,hrow,a1,c,e5,e6,e9,ab]
   ·simp only[c,decide_false,aB,if_false,Lf];simp only[ae,ah,jf] at a1 ⊢;generalize s.map ah=rr at*;generalize l.map ah=rl at*;generalize l[i].flags.map aO=rf at*;simp (maxSteps:=9^9) [cK.l1,aa,hi,hrow,a1,c,e5])
  (fun s x hs=>by
   obtain⟨v,n⟩:=x;simp only[aE,Lf,MP,ae];generalize l.map ah=rl at*;simp (maxSteps:=9^9) [cK.l1,aa,hrow]) (l.filter (fun y=>decide (y.uid≤m.uid))++[m]) (by have:=bG (fun y:bj=>decide (y.uid≤m.uid)) l;simp;omega)
 rw[qJ] at hr hr';have hr0:=hr (2000032,2000080);generalize g (2000032,2000080)=y at*;obtain⟨v1,n1⟩:=y;have hr1:=hr' (n1+48,n1+96);generalize g' (n1+48,n1+96)=y at*;obtain⟨v2,n2⟩:=y;have e1:(l.filter (fun y=>decide (y.uid≤m.uid))).length≤16777216:=Nat.le_trans (bG _ _) hl;have e2:(l.filter (fun y=>decide (m.uid<y.uid))).length≤16777216:=Nat.le_trans (bG _ _) hl;simp only[Lg,MQ,Lf,MP,List.nil_append,cg,bu,bS,aD,bM,dy] at hr0 hr1;have e3:((l.filter (fun y=>decide (y.uid≤m.uid))).map ah).length=(l.filter (fun y=>decide (y.uid≤m.uid))).length:=by simp
 have e4:((l.filter (fun y=>decide (m.uid<y.uid))).map ah).length=(l.filter (fun y=>decide (m.uid<y.uid))).length:=by simp
 have ez:((0:Nat):Int)=0:=rfl;simp only[ez] at hr0 hr1;simp only[iB,cg,bu,bS];simp only[ae,ah,jf] at*;generalize (l.filter (fun y=>decide (y.uid≤m.uid))).map ah=r1 at*;generalize (l.filter (fun y=>decide (m.uid<y.uid))).map ah=r2 at*;generalize (l.filter (fun y=>decide (y.uid≤m.uid))).length=k1 at*;generalize (l.filter (fun y=>decide (m.uid<y.uid))).length=k2 at*;generalize l.map ah=rl at*;generalize m.flags.map aO=rf at*;have e5:k1+1≤4294967296:=by omega
 have e6:(r1++([I m.gid,I m.uid,T.sl false 3 rf,S m.text]::r2)).take (k1+1+k2)=r1++([I m.gid,I m.uid,T.sl false 3 rf,S m.text]::r2):=ab (by simp;omega);have e7:k1+1+k2≤k1+(k2+1):=by omega
 simp (maxSteps:=9^9) [ba,cK.m,cK.b,aa,e7,hr0,hr1,e3,e4,e5,e6,ab]
def Ly(u2 u3:Nat)(a b:bq)(i:Nat)(s:List Int)(x:Nat×Nat):St:={t:=[(2,.c (.ptr 2 u2 0 0)),(3,.c (.ptr 3 u3 0 0)),(5,.c (.row 8 x.1 0 s.length)),(6,.c (I i))],o:=[(2,⟨u2,7,true,true,[af a]⟩),(3,⟨u3,7,true,true,[af b]⟩),(8,⟨x.1,1,true,false,aA s⟩)],n:=x.2}
def MY(u2 u3:Nat)(a b:bq)(s:List Int)(x:Nat×Nat):St:={t:=[(2,.c (.ptr 2 u2 0 0)),(3,.c (.ptr 3 u3 0 0)),(5,.c (.row 8 x.1 0 s.length)),(6,.c (I a.ae.length)),(13,.c (.bool false))],o:=[(2,⟨u2,7,true,true,[af a]⟩),(3,⟨u3,7,true,true,[af b]⟩),(8,⟨x.1,1,true,false,aA s⟩)],n:=x.2}
def Lx(u3:Nat)(b:bq)(i:Nat)(s:List Int)(x:Nat×Nat):St:={t:=[(3,.c (.ptr 3 u3 0 0)),(5,.c (.row 8 x.1 0 s.length)),(7,.c (I i))],o:=[(3,⟨u3,7,true,true,[af b]⟩),(8,⟨x.1,1,true,false,aA s⟩)],n:=x.2}
def MX(u3:Nat)(b:bq)(s:List Int)(x:Nat×Nat):St:={t:=[(3,.c (.ptr 3 u3 0 0)),(5,.c (.row 8 x.1 0 s.length)),(7,.c (I b.ae.length)),(37,.c (.bool false))],o:=[(3,⟨u3,7,true,true,[af b]⟩),(8,⟨x.1,1,true,false,aA s⟩)],n:=x.2}
theorem su(s:List Int)(x:Int):(kz s x).length≤s.length+1:=by
 unfold kz;split
 ·omega
 ·exact zO s x
theorem yQ(l:List bj)(s:List Int):l.foldl (fun s m=>kz s m.gid) s=(fk l).foldl kz s:=by
 simp only[fk,List.foldl_map]
theorem db.ak(h:db.k M)(a b:bq)(ha:a.ae.length≤1048576)(hb:b.ae.length≤1048576):run M 460 [.a (af a),.a (af b)] []=some (.c (.sl true 1 (aA (aQ (fk a.ae) (fk b.ae)))),[]):=by
 obtain⟨h0,kin,kput⟩:=h;refine au (b:=db.m) h0 ⟨a.ae.length+b.ae.length+1, ?_⟩;generalize hK:a.ae.length+b.ae.length+1=K;have hra:(a.ae.map ah).length=a.ae.length:=by simp
 have hrb:(b.ae.map ah).length=b.ae.length:=by simp
 obtain⟨g,hr⟩:=jB (f:=cz (run M) K db.l0) a.ae (fun s m=>kz s m.gid) (fun i s=>s.length≤i) (Ly 2000000 2000016 a b) 0 (MY 2000000 2000016 a b)
  (fun i h s hs=>by have:=su s a.ae[i].gid;omega)
  (fun i hi s x hs=>by
   obtain⟨v,n⟩:=x;have e5:=cA (i:=i) (by omega);have e9:=aS s;have h1:=bf.ak kin s a.ae[i].gid (by omega);have h2:=bU.ak kput s a.ae[i].gid (by omega);have a1:∀hh,(a.ae.map ah)[i]'hh=ah a.ae[i]:=by intro hh;simp
   have e10:=aS (la s a.ae[i].gid);have hfl:=kX (la s a.ae[i].gid);simp only[aE,kz];by_cases c:a.ae[i].gid∈s
   ·rw[decide_eq_true c] at h1;rw[if_pos c];simp only[Ly];simp only[af,ae,ints,ah,jf] at a1 h1 ⊢;generalize aA s=rs at*;generalize a.ae.map ah=ra at*;generalize b.ae.map ah=rb at*;simp (maxSteps:=9^9) [db.l0,hra,hi,h1,a1,e5,e9,ab]
   ·rw[decide_eq_false c] at h1;rw[if_neg c];simp only[Ly];simp only[af,ae,ints,ah,jf] at a1 h1 h2 ⊢;generalize aA (la s a.ae[i].gid)=rp at*;generalize aA s=rs at*;generalize a.ae.map ah=ra at*;generalize b.ae.map ah=rb at*;simp (maxSteps:=9^9) [db.l0,hra,hi,h1,h2,a1,e5,e9,e10,hfl,ab])
  (fun s x hs=>by
   obtain⟨v,n⟩:=x;simp only[aE,Ly,MY,af,ae,ints];generalize a.ae.map ah=ra at*;generalize b.ae.map ah=rb at*;simp (maxSteps:=9^9) [db.l0,hra]) [] (by simp)
 obtain⟨g',hr'⟩:=jB (f:=cz (run M) K db.l1) b.ae (fun s m=>kz s m.gid) (fun i s=>s.length≤a.ae.length+i) (Lx 2000016 b) 2 (MX 2000016 b)
  (fun i h s hs=>by have:=su s b.ae[i].gid;omega)
  (fun i hi s x hs=>by
   obtain⟨v,n⟩:=x;have e5:=cA (i:=i) (by omega);have e9:=aS s;have h1:=bf.ak kin s b.ae[i].gid (by omega);have h2:=bU.ak kput s b.ae[i].gid (by omega);have a1:∀hh,(b.ae.map ah)[i]'hh=ah b.ae[i]:=by intro hh;simp
   have e10:=aS (la s b.ae[i].gid);have hfl:=kX (la s b.ae[i].gid);simp only[aE,kz];by_cases c:b.ae[i].gid∈s
   ·rw[decide_eq_true c] at h1;rw[if_pos c];simp only[Lx];simp only[af,ae,ints,ah,jf] at a1 h1 ⊢;generalize aA s=rs at*;generalize b.ae.map ah=rb at*;simp (maxSteps:=9^9) [db.l1,hrb,hi,h1,a1,e5,e9,ab]
   ·rw[decide_eq_false c] at h1;rw[if_neg c];simp only[Lx];simp only[af,ae,ints,ah,jf] at a1 h1 h2 ⊢;generalize aA (la s b.ae[i].gid)=rp at*;generalize aA s=rs at*;generalize b.ae.map ah=rb at*;simp (maxSteps:=9^9) [db.l1,hrb,hi,h1,h2,a1,e5,e9,e10,hfl,ab])
  (fun s x hs=>by
   obtain⟨v,n⟩:=x;simp only[aE,Lx,MX,af,ae,ints];generalize b.ae.map ah=rb at*;simp (maxSteps:=9^9) [db.l1,hrb]) (a.ae.foldl (fun s m=>kz s m.gid) []) (by
    have:=uL a.ae (fun s m=>kz s m.gid) (fun i s=>s.length≤i) (fun i h s hs=>by have:=su s a.ae[i].gid;omega) [] (by simp);omega)
 have hj:aQ (fk a.ae) (fk b.ae)=b.ae.foldl (fun s m=>kz s m.gid) (a.ae.foldl (fun s m=>kz s m.gid) []):=by
  rw[yQ,yQ,aQ,List.foldl_append]
 rw[hj];clear hj;have hr0:=gz (hr (2000048,2000096)) (show a.ae.length+1≤K by omega);generalize g (2000048,2000096)=y at*;obtain⟨v1,n1⟩:=y;have hr1:=gz (hr' (v1,n1+16)) (show b.ae.length+1≤K by omega);generalize g' (v1,n1+16)=y at*;obtain⟨v2,n2⟩:=y;generalize hs1:a.ae.foldl (fun s m=>kz s m.gid) []=s1 at*;generalize hs2:b.ae.foldl (fun s m=>kz s m.gid) s1=s2 at*;have ez:((0:Nat):Int)=0:=rfl;have e10:=aS s2;simp only[Ly,MY,Lx,MX,ez,dy,pq] at hr0 hr1;simp only[af,ae,ints] at*;generalize aA s1=r1 at*;generalize aA s2=r2 at*;generalize a.ae.map ah=ra at*;generalize b.ae.map ah=rb at*;simp (maxSteps:=9^9) [ba,db.m,db.b,aa,hr0,hr1,e10,ab]
def Jf(u2 u3:Nat)(a b:bq)(v:Nat)(L:List bj):List (Nat×Ob):=[(2,⟨u2,7,true,true,[af a]⟩),(3,⟨u3,7,true,true,[af b]⟩),(17,⟨v,4,true,false,L.map ah⟩)]
def Br(u2 u3:Nat)(a b:bq)(G:List Int)(i:Nat)(s:List bj×Int)(x:Nat×Nat):St:={t:=[(2,.c (.ptr 2 u2 0 0)),(3,.c (.ptr 3 u3 0 0)),(6,.c (I s.2)),(7,.c (.row 17 x.1 0 s.1.length)),(8,.c (ints G)),(9,.c (I i))],o:=Jf u2 u3 a b x.1 s.1,n:=x.2}
def LX(u2 u3:Nat)(a b:bq)(G:List Int)(s:List bj×Int)(x:Nat×Nat):St:={t:=[(2,.c (.ptr 2 u2 0 0)),(3,.c (.ptr 3 u3 0 0)),(6,.c (I s.2)),(7,.c (.row 17 x.1 0 s.1.length)),(8,.c (ints G)),(9,.c (I G.length)),(24,.c (.bool false))],o:=Jf u2 u3 a b x.1 s.1,n:=x.2}
structure LP (M:Nat→Option Body):Prop where
 keeps:dC.k M
 at_:bI.k M
 G5:bf.k M
 copy:fD.k M
 join:fq.k M
 put:cK.k M
theorem holds_of{a:bq}{g:Int}:holds a g=(fX a.ae g).isSome:=by
 unfold holds;cases fX a.ae g with
 |none=>rfl
 |some k=>exact decide_eq_true (Int.natCast_nonneg k)
theorem CP(K:LP M)(k u2 u3:Nat)(a b:bq)(ha:iw a)(hb:iw b)(G:List Int)(hG:G.length≤4194304)(i:Nat)(hi:i<G.length)(s:List bj×Int)(x:Nat×Nat)(c:G[i]∈a.gone∨G[i]∈b.gone):
  ∃y,cz (run M) k cP.l0 (Br u2 u3 a b G i s x)=some (.normal,Br u2 u3 a b G (i+1) s y):=by
 obtain⟨v,n⟩:=x;obtain⟨L,nx⟩:=s;have h1:=bf.ak K.G5 a.gone G[i] (by have:=ha.g;omega);have h2:=bf.ak K.G5 b.gone G[i] (by have:=hb.g;omega);have e5:=cA (i:=i) (by omega);have eg:=aS G;have a0:∀hh,(aA G)[i]'hh=[I G[i]]:=by intro hh;simp[aA]
 have hcd:G[i]∈a.gone∨¬G[i]∈a.gone∧G[i]∈b.gone:=by
  by_cases q:G[i]∈a.gone
  ·exact .inl q
  ·exact .inr ⟨q,c.resolve_left q⟩
 simp only[aE,Br,Jf];rcases hcd with q|⟨q1,q2⟩
 ·rw[decide_eq_true q] at h1;simp only[af,ae,ints] at*;generalize aA G=rg at*;generalize aA a.gone=ga at*;generalize aA b.gone=gb at*;generalize a.ae.map ah=ra at*;generalize b.ae.map ah=rb at*;generalize L.map ah=rl at*;simp (maxSteps:=9^9) [cP.l0,aa,hi,h1,e5,eg,a0]
 ·rw[decide_eq_false q1] at h1;rw[decide_eq_true q2] at h2;simp only[af,ae,ints] at*;generalize aA G=rg at*;generalize aA a.gone=ga at*;generalize aA b.gone=gb at*;generalize a.ae.map ah=ra at*;generalize b.ae.map ah=rb at*;generalize L.map ah=rl at*;simp (maxSteps:=9^9) [cP.l0,aa,hi,h1,h2,e5,eg,a0]
theorem JG(k u2 u3:Nat)(a b:bq)(G:List Int)(s:List bj×Int)(x:Nat×Nat):
  ∃y,cz (run M) k cP.l0 (Br u2 u3 a b G G.length s x)=some (.exit 0,LX u2 u3 a b G s y):=by
 obtain⟨v,n⟩:=x;obtain⟨L,nx⟩:=s;have eg:=aS G;simp only[aE,Br,LX,Jf];simp only[af,ae,ints] at*;generalize aA G=rg at*;generalize aA a.gone=ga at*;generalize aA b.gone=gb at*;generalize a.ae.map ah=ra at*;generalize b.ae.map ah=rb at*;generalize L.map ah=rl at*;simp (maxSteps:=9^9) [cP.l0,aa,eg]
theorem Ht(K:LP M)(k u2 u3:Nat)(a b:bq)(ha:iw a)(hb:iw b)(G:List Int)(hG:G.length≤4194304)(i:Nat)(hi:i<G.length)(s:List bj×Int)(hs:s.1.length≤16777216)(hx: -1000000000≤s.2∧s.2≤1000000000000)(x:Nat×Nat)(c1:¬G[i]∈a.gone)(c2:¬G[i]∈b.gone)
  (p q:Nat) (hp:fX a.ae G[i]=some p) (hq:fX b.ae G[i]=some q):
  ∃y,cz (run M) k cP.l0 (Br u2 u3 a b G i s x)=some (.normal,Br u2 u3 a b G (i+1) (mi a b s G[i]) y):=by
 obtain⟨v,n⟩:=x;obtain⟨L,nx⟩:=s;simp only at hs hx;have h1:=bf.ak K.G5 a.gone G[i] (by have:=ha.g;omega);have h2:=bf.ak K.G5 b.gone G[i] (by have:=hb.g;omega);rw[decide_eq_false c1] at h1;rw[decide_eq_false c2] at h2;have h3:=bI.ak K.at_ a G[i] ha.m;have h4:=bI.ak K.at_ b G[i] hb.m;rw[hp] at h3;rw[hq] at h4;obtain⟨hp1,hp2⟩:=mu hp;obtain⟨hq1,hq2⟩:=mu hq;have h5:=fq.ak K.join a.ae[p] b.ae[q] (ha.f _ (ax hp1)) (hb.f _ (ax hq1));have h6:=dC.ak K.keeps a b G[i] ha.m hb.m;have h7:=dC.ak K.keeps b a G[i] hb.m ha.m;have h8:=cK.ak K.put L (iA a.ae[p] b.ae[q]) hs;have h9:=cK.ak K.put L {iA a.ae[p] b.ae[q] with uid:=nx} hs
 have e5:=cA (i:=i) (by omega);have e6:IntKind.i64.wrap (nx+1)=nx+1:=wrap_i64 (by omega) (by omega);have eg:=aS G;have a0:∀hh,(aA G)[i]'hh=[I G[i]]:=by intro hh;simp[aA]
 have a1:∀hh,(a.ae.map ah)[p]'hh=ah a.ae[p]:=by intro hh;simp
 have a2:∀hh,(b.ae.map ah)[q]'hh=ah b.ae[q]:=by intro hh;simp
 have el:(L.map ah).length=L.length:=by simp
 have eA:(a.ae.map ah).length=a.ae.length:=by simp
 have eB:(b.ae.map ah).length=b.ae.length:=by simp
 have l8:((iB (fun m:bj=>m.uid) L (iA a.ae[p] b.ae[q])).map ah).length=(iB (fun m:bj=>m.uid) L (iA a.ae[p] b.ae[q])).length:=by simp
 have l9:((iB (fun m:bj=>m.uid) L {iA a.ae[p] b.ae[q] with uid:=nx}).map ah).length=(iB (fun m:bj=>m.uid) L {iA a.ae[p] b.ae[q] with uid:=nx}).length:=by simp
 have hst:mi a b (L,nx) G[i]=if(!jm a b G[i]|| !jm b a G[i])=true then(iB (fun m:bj=>m.uid) L {iA a.ae[p] b.ae[q] with uid:=nx},nx+1) else(iB (fun m:bj=>m.uid) L (iA a.ae[p] b.ae[q]),nx):=by
  have e1:je a b G[i]=(!jm a b G[i]|| !jm b a G[i]):=by simp[je,holds_of,hp,hq]
  have e2:nk a.ae b.ae G[i]=iA a.ae[p] b.ae[q]:=by simp[nk,hp2,hq2]
  simp only[mi];rw[if_neg (by simp[c1,c2]),e1,e2]
 rw[hst];clear hst hp hq hp2 hq2 c1 c2;simp only[aE,Br,Jf];simp only[af,ae,ints,dA,ah,iC,jf] at*;generalize jm a b G[i]=w1 at*;generalize jm b a G[i]=w2 at*;generalize iA a.ae[p] b.ae[q]=m at*;generalize iB (fun m:bj=>m.uid) L {m with uid:=nx}=L9 at*
 generalize iB (fun m:bj=>m.uid) L m=L8 at*;generalize a.ae[p]=ma at*;generalize b.ae[q]=mb at*;generalize G[i]=g at*;generalize aA G=rg at*;generalize aA a.gone=ga at*;generalize aA b.gone=gb at*;generalize a.ae.map ah=ra at*;generalize b.ae.map ah=rb at*;generalize L.map ah=rl at*;generalize m.flags.map aO=rm at*;generalize ma.flags.map aO=rma at*;generalize mb.flags.map aO=rmb at*;cases w1<;>cases w2<;>simp (maxSteps:=9^9) [cP.l0,aa,setAt,hi,hp1,hq1,h1,h2,h3,h4,h5,h6,h7,h8,h9,e5,e6,eg,a0,a1,a2,el,eA,eB,l8,l9,ab]
theorem MA(K:LP M)(k u2 u3:Nat)(a b:bq)(ha:iw a)(hb:iw b)(G:List Int)(hG:G.length≤4194304)(i:Nat)(hi:i<G.length)(s:List bj×Int)(hs:s.1.length≤16777216)(hx: -1000000000≤s.2∧s.2≤1000000000000)(x:Nat×Nat)(c1:¬G[i]∈a.gone)(c2:¬G[i]∈b.gone)
  (p:Nat) (hp:fX a.ae G[i]=some p) (hq:fX b.ae G[i]=none):
  ∃y,cz (run M) k cP.l0 (Br u2 u3 a b G i s x)=some (.normal,Br u2 u3 a b G (i+1) (mi a b s G[i]) y):=by
 obtain⟨v,n⟩:=x;obtain⟨L,nx⟩:=s;simp only at hs hx;have h1:=bf.ak K.G5 a.gone G[i] (by have:=ha.g;omega);have h2:=bf.ak K.G5 b.gone G[i] (by have:=hb.g;omega);rw[decide_eq_false c1] at h1;rw[decide_eq_false c2] at h2;have h3:=bI.ak K.at_ a G[i] ha.m;have h4:=bI.ak K.at_ b G[i] hb.m;rw[hp] at h3;rw[hq] at h4;obtain⟨hp1,hp2⟩:=mu hp;have hq2:=oz.1 hq;have h5:=fD.ak K.copy a.ae[p] (ha.f _ (ax hp1));have h6:=dC.ak K.keeps a b G[i] ha.m hb.m;have h8:=cK.ak K.put L a.ae[p] hs;have h9:=cK.ak K.put L {a.ae[p] with uid:=nx} hs
 have e5:=cA (i:=i) (by omega);have e6:IntKind.i64.wrap (nx+1)=nx+1:=wrap_i64 (by omega) (by omega);have eg:=aS G;have a0:∀hh,(aA G)[i]'hh=[I G[i]]:=by intro hh;simp[aA]
 have a1:∀hh,(a.ae.map ah)[p]'hh=ah a.ae[p]:=by intro hh;simp
 have el:(L.map ah).length=L.length:=by simp
 have eA:(a.ae.map ah).length=a.ae.length:=by simp
 have eB:(b.ae.map ah).length=b.ae.length:=by simp
 have l8:((iB (fun m:bj=>m.uid) L a.ae[p]).map ah).length=(iB (fun m:bj=>m.uid) L a.ae[p]).length:=by simp
 have l9:((iB (fun m:bj=>m.uid) L {a.ae[p] with uid:=nx}).map ah).length=(iB (fun m:bj=>m.uid) L {a.ae[p] with uid:=nx}).length:=by simp
 have hst:mi a b (L,nx) G[i]=if(!jm a b G[i])=true then(iB (fun m:bj=>m.uid) L {a.ae[p] with uid:=nx},nx+1) else(iB (fun m:bj=>m.uid) L a.ae[p],nx):=by
  have e1:je a b G[i]=(!jm a b G[i]):=by simp[je,holds_of,hp,hq]
  have e2:nk a.ae b.ae G[i]=a.ae[p]:=by simp[nk,hp2,hq2]
  simp only[mi];rw[if_neg (by simp[c1,c2]),e1,e2]
 rw[hst];clear hst hp hq hp2 hq2 c1 c2;simp only[aE,Br,Jf];simp only[af,ae,ints,dA,ah,iC,jf] at*;generalize jm a b G[i]=w1 at*;generalize a.ae[p]=m at*;generalize iB (fun m:bj=>m.uid) L {m with uid:=nx}=L9 at*
 generalize iB (fun m:bj=>m.uid) L m=L8 at*;generalize G[i]=g at*;generalize aA G=rg at*;generalize aA a.gone=ga at*;generalize aA b.gone=gb at*;generalize a.ae.map ah=ra at*;generalize b.ae.map ah=rb at*;generalize L.map ah=rl at*;generalize m.flags.map aO=rm at*;cases w1<;>simp (maxSteps:=9^9) [cP.l0,aa,setAt,hi,hp1,h1,h2,h3,h4,h5,h6,h8,h9,e5,e6,eg,a0,a1,el,eA,l8,l9,ab]
theorem Mz(K:LP M)(k u2 u3:Nat)(a b:bq)(ha:iw a)(hb:iw b)(G:List Int)(hG:G.length≤4194304)(i:Nat)(hi:i<G.length)(s:List bj×Int)(hs:s.1.length≤16777216)(hx: -1000000000≤s.2∧s.2≤1000000000000)(x:Nat×Nat)(c1:¬G[i]∈a.gone)(c2:¬G[i]∈b.gone)
  (q:Nat) (hp:fX a.ae G[i]=none) (hq:fX b.ae G[i]=some q):
  ∃y,cz (run M) k cP.l0 (Br u2 u3 a b G i s x)=some (.normal,Br u2 u3 a b G (i+1) (mi a b s G[i]) y):=by
 obtain⟨v,n⟩:=x;obtain⟨L,nx⟩:=s;simp only at hs hx;have h1:=bf.ak K.G5 a.gone G[i] (by have:=ha.g;omega);have h2:=bf.ak K.G5 b.gone G[i] (by have:=hb.g;omega);rw[decide_eq_false c1] at h1;rw[decide_eq_false c2] at h2;have h3:=bI.ak K.at_ a G[i] ha.m;have h4:=bI.ak K.at_ b G[i] hb.m;rw[hp] at h3;rw[hq] at h4;have hp2:=oz.1 hp;obtain⟨hq1,hq2⟩:=mu hq;have h5:=fD.ak K.copy b.ae[q] (hb.f _ (ax hq1));have h7:=dC.ak K.keeps b a G[i] hb.m ha.m;have h8:=cK.ak K.put L b.ae[q] hs;have h9:=cK.ak K.put L {b.ae[q] with uid:=nx} hs
 have e5:=cA (i:=i) (by omega);have e6:IntKind.i64.wrap (nx+1)=nx+1:=wrap_i64 (by omega) (by omega);have eg:=aS G;have a0:∀hh,(aA G)[i]'hh=[I G[i]]:=by intro hh;simp[aA]
 have a2:∀hh,(b.ae.map ah)[q]'hh=ah b.ae[q]:=by intro hh;simp
 have el:(L.map ah).length=L.length:=by simp
 have eA:(a.ae.map ah).length=a.ae.length:=by simp
 have eB:(b.ae.map ah).length=b.ae.length:=by simp
 have l8:((iB (fun m:bj=>m.uid) L b.ae[q]).map ah).length=(iB (fun m:bj=>m.uid) L b.ae[q]).length:=by simp
 have l9:((iB (fun m:bj=>m.uid) L {b.ae[q] with uid:=nx}).map ah).length=(iB (fun m:bj=>m.uid) L {b.ae[q] with uid:=nx}).length:=by simp
 have hst:mi a b (L,nx) G[i]=if(!jm b a G[i])=true then(iB (fun m:bj=>m.uid) L {b.ae[q] with uid:=nx},nx+1) else(iB (fun m:bj=>m.uid) L b.ae[q],nx):=by
  have e1:je a b G[i]=(!jm b a G[i]):=by simp[je,holds_of,hp,hq]
  have e2:nk a.ae b.ae G[i]=b.ae[q]:=by simp[nk,hp2,hq2]
  simp only[mi];rw[if_neg (by simp[c1,c2]),e1,e2]
 rw[hst];clear hst hp hq hp2 hq2 c1 c2;simp only[aE,Br,Jf];simp only[af,ae,ints,dA,ah,iC,jf] at*;generalize jm b a G[i]=w2 at*;generalize b.ae[q]=m at*;generalize iB (fun m:bj=>m.uid) L {m with uid:=nx}=L9 at*
 generalize iB (fun m:bj=>m.uid) L m=L8 at*;generalize G[i]=g at*;generalize aA G=rg at*;generalize aA a.gone=ga at*;generalize aA b.gone=gb at*;generalize a.ae.map ah=ra at*;generalize b.ae.map ah=rb at*;generalize L.map ah=rl at*;generalize m.flags.map aO=rm at*;cases w2<;>simp (maxSteps:=9^9) [cP.l0,aa,setAt,hi,hq1,h1,h2,h3,h4,h5,h7,h8,h9,e5,e6,eg,a0,a2,el,eB,l8,l9,ab]
theorem DG(a b:bq)(s:List bj×Int)(g:Int):(mi a b s g).1.length≤s.1.length+1∧s.2≤(mi a b s g).2∧(mi a b s g).2≤s.2+1:=by
 have h:∀(L:List bj) (m:bj),(iB (fun m:bj=>m.uid) L m).length=L.length+1:=fun L m=>by
  have:=(xn (k:=fun m:bj=>m.uid) L m).length_eq;simpa using this
 unfold mi;split
 ·omega
 ·split
  ·simp only[h];omega
  ·simp only[h];omega
theorem cP.ak(h:cP.k M)(a b:bq)(ha:iw a)(hb:iw b)(hna: -1000000000≤a.next∧a.next≤1000000000)(hnb: -1000000000≤b.next∧b.next≤1000000000):
  run M 439 [.a (af a),.a (af b)] []=some (.lM [.c (.sl true 4 ((jk a b).1.map ah)),.c (I (jk a b).2)],[]):=by
 obtain⟨h0,kk,ka,ki,kc,kn,kg,kj,kp⟩:=h;have K:LP M:=⟨kk,ka,ki,kc,kj,kp⟩;have h1:=gS.ak kn a b;have h2:=db.ak kg a b ha.m hb.m;have hG:(aQ (fk a.ae) (fk b.ae)).length≤4194304:=by
  have:=kF (fk a.ae) (fk b.ae);have e1:(fk a.ae).length=a.ae.length:=by simp[fk]
  have e2:(fk b.ae).length=b.ae.length:=by simp[fk]
  have:=ha.m;have:=hb.m;omega
 have hmem:∀g∈aQ (fk a.ae) (fk b.ae),g∈fk a.ae∨g∈fk b.ae:=fun g hg=>(iQ _ _ _).1 hg
 have hJ:jk a b=(aQ (fk a.ae) (fk b.ae)).foldl (mi a b) ([],Max.max a.next b.next):=rfl;rw[hJ];have eg:=aS (aQ (fk a.ae) (fk b.ae));clear hJ;generalize aQ (fk a.ae) (fk b.ae)=G at*;generalize hmx:Max.max a.next b.next=mx at*;refine au (b:=cP.m) h0 ⟨G.length+1, ?_⟩;obtain⟨g,hr⟩:=jB (f:=cz (run M) (G.length+1) cP.l0) G (mi a b) (fun i s=>s.1.length≤i∧mx≤s.2∧s.2≤mx+i) (Br 2000000 2000016 a b G) 0 (LX 2000000 2000016 a b G)
  (fun i hi s hs=>by have:=DG a b s G[i];omega)
  (fun i hi s x hs=>by
   by_cases c1:G[i]∈a.gone
   ·have e:mi a b s G[i]=s:=by unfold mi;rw[if_pos (.inl c1)]
    rw[e];exact CP K _ _ _ a b ha hb G hG i hi s x (.inl c1)
   by_cases c2:G[i]∈b.gone
   ·have e:mi a b s G[i]=s:=by unfold mi;rw[if_pos (.inr c2)]
    rw[e];exact CP K _ _ _ a b ha hb G hG i hi s x (.inr c2)
   cases hp:fX a.ae G[i] with
   |some p=>
    cases hq:fX b.ae G[i] with
    |some q=>exact Ht K _ _ _ a b ha hb G hG i hi s (by omega) (by omega) x c1 c2 p q hp hq
    |none=>exact MA K _ _ _ a b ha hb G hG i hi s (by omega) (by omega) x c1 c2 p hp hq
   |none=>
    cases hq:fX b.ae G[i] with
    |some q=>exact Mz K _ _ _ a b ha hb G hG i hi s (by omega) (by omega) x c1 c2 q hp hq
    |none=>
     exfalso;rcases hmem _ (ax hi) with z|z
     ·obtain⟨m,hm,e⟩:=List.mem_map.1 z;exact qL.1 hp m hm e
     ·obtain⟨m,hm,e⟩:=List.mem_map.1 z;exact qL.1 hq m hm e)
  (fun s x hs=>JG _ _ _ a b G s x) ([],mx) ⟨by simp,by simp,by simp⟩
 have hr0:=hr (2000128,2000240);generalize g (2000128,2000240)=y at*;obtain⟨v,n⟩:=y;have el:((G.foldl (mi a b) ([],mx)).1.map ah).length=(G.foldl (mi a b) ([],mx)).1.length:=by simp
 generalize G.foldl (mi a b) ([],mx)=R at*;obtain⟨L,nx⟩:=R;have ez:((0:Nat):Int)=0:=rfl;simp only[Br,LX,Jf,ez,bS,dy] at hr0;simp only at el ⊢;simp only[af,ae,ints] at*;generalize aA G=rg at*;generalize aA a.gone=ga at*;generalize aA b.gone=gb at*;generalize a.ae.map ah=ra at*;generalize b.ae.map ah=rb at*;generalize L.map ah=rl at*;simp (maxSteps:=9^9) [ba,cP.m,cP.b,aa,hr0,h1,h2,el,ab]
theorem FE(t w u x:Int)(p:Prop):(lh u x t w=true∨lh t w u x=false∧p)↔(lh u x t w=true∨(t=u∧w=x)∧p):=by
 simp only[uG,yL];by_cases hp:p
 ·simp only[hp,and_true];omega
 ·simp only[hp,and_false,or_false]
theorem zF(a b:bq):gY a b=if a.gid=b.gid then
  {gid:=a.gid,name:=if lh b.time b.eJ a.time a.eJ=true∨(a.time=b.time∧a.eJ=b.eJ)∧jH a.name b.name=true then b.name else a.name,
   time:=if lh b.time b.eJ a.time a.eJ=true∨(a.time=b.time∧a.eJ=b.eJ)∧jH a.name b.name=true then b.time else a.time,
   eJ:=if lh b.time b.eJ a.time a.eJ=true∨(a.time=b.time∧a.eJ=b.eJ)∧jH a.name b.name=true then b.eJ else a.eJ,
   next:=(jk a b).2,ae:=(jk a b).1,gone:=aQ a.gone b.gone} else a:=by
 unfold gY;simp only[FE a.time a.eJ b.time b.eJ]
theorem eE.ak(h:eE.k M)(a b:bq)(H:xY a b):run M 405 [.a (af a),.a (af b)] []=some (.a (b7 (gY a b)),[]):=by
 obtain⟨h0,kg,kc,kl,kj⟩:=h;have h1:=bX.ak kc a H.ia;have h2:=aT.ak kg a.gone b.gone H.ia.g H.ib.g;have h3:=hQ.ak kl b.time b.eJ a.time a.eJ;have h5:=cP.ak kj a b H.ia H.ib H.xa H.xb;have e1:(aQ a.gone b.gone).length≤4194304:=by
  have:=kF a.gone b.gone;have:=H.ia.g;have:=H.ib.g;omega
 have e2:=aS (aQ a.gone b.gone);have e3:((jk a b).1.map ah).length=(jk a b).1.length:=by simp
 have e4:(a.ae.map ah).length=a.ae.length:=by simp
 have e5:=aS a.gone;have e6:=uT a.name b.name;refine au (b:=eE.m) h0 ⟨0, ?_⟩;rw[zF];by_cases c:a.gid=b.gid
 ·rw[if_pos c];simp only[af,b7,ae,ints] at*;rw[c] at h5;generalize hx:lh b.time b.eJ a.time a.eJ=x at*;generalize hw:jH a.name b.name=w at*;generalize (jk a b).1.map ah=rj at*;generalize (jk a b).1.length=nj at*;generalize (jk a b).2=xj at*;generalize aA (aQ a.gone b.gone)=gj at*;generalize a.ae.map ah=ra at*;generalize b.ae.map ah=rb at*;generalize aA a.gone=ga at*;generalize aA b.gone=gb at*;clear hx hw;obtain⟨ag,an,at',aw,anx,am,ago⟩:=a;obtain⟨bg,bn,bt,bw,bnx,bm,bgo⟩:=b;simp only at*;cases x
  ·by_cases c2:at'=bt
   ·subst c2;by_cases c3:aw=bw
    ·subst c3;cases w<;>simp (maxSteps:=9^9) [ba,eE.m,eE.b,aa,setAt,h2,h3,h5,c,e2,e3,e6,ab]
    ·simp (maxSteps:=9^9) [ba,eE.m,eE.b,aa,setAt,h2,h3,h5,c,c3,e2,e3,ab]
   ·simp (maxSteps:=9^9) [ba,eE.m,eE.b,aa,setAt,h2,h3,h5,c,c2,e2,e3,ab]
  ·simp (maxSteps:=9^9) [ba,eE.m,eE.b,aa,setAt,h2,h3,h5,c,e2,e3,ab]
 ·rw[if_neg c];simp only[af,b7,ae,ints] at*;generalize a.ae.map ah=ra at*;generalize b.ae.map ah=rb at*;generalize aA a.gone=ga at*;generalize aA b.gone=gb at*;simp (maxSteps:=9^9) [ba,eE.m,eE.b,aa,setAt,h1,c,e4,e5,ab]
deriving instance DecidableEq for mJ
deriving instance DecidableEq for bj
deriving instance DecidableEq for bq
theorem zb(l:List bj):(allM l l).length=l.length:=by
 have h:(l.filter fun m=>(jV l m.gid).isNone)=[]:=List.filter_eq_nil_iff.2 fun m hm c=>by
  rw[ch] at c;exact oD.1 c m hm rfl
 simp only[allM,aD,eM,h,dy,Nat.add_zero]
theorem xf{a b:bq}(ha:(fk a.ae).Nodup)(hb:(fk b.ae).Nodup):(jk a b).2≤Max.max a.next b.next+(a.ae.length+b.ae.length:Nat):=by
 rw[←qf ha hb];simp only[oV];have h1:=(m_ (je a b) (fc (·.gid) ((allM a.ae b.ae).filter fun m=> !decide (m.gid∈aQ a.gone b.gone))) (Max.max a.next b.next)).2;rw[iK] at h1;have h2:=bG (fun m:bj=> !decide (m.gid∈aQ a.gone b.gone)) (allM a.ae b.ae);have h3:=Dr a.ae b.ae;omega
theorem zA{a b:bq}(ha:(fk a.ae).Nodup)(hb:(fk b.ae).Nodup):(fk (jk a b).1).Nodup:=
 (zC ha hb).nodup_iff.2 (by
  have:=(nV (fk a.ae) (fk b.ae)).filter (fun g=> !decide (g∈aQ a.gone b.gone));exact this.imp fun h=>by omega)
theorem Bi{a b:bq}(ha:Good a)(hb:Good b):xY (gY a b) (gY a b):=by
 have H:=ha.AI hb;have hin:=td H;have h1:(gY a b).gone.length≤500000:=by
  unfold gY;split
  ·have:=kF a.gone b.gone;have:=ha.oN;have:=hb.oN;simp only;omega
  ·exact H.ga
 have h2:(fk (gY a b).ae).Nodup:=by
  unfold gY;split
  ·exact zA ha.nd hb.nd
  ·exact ha.nd
 have h3:(gY a b).ae.length≤20:=by
  unfold gY;split
  ·exact tQ H
  ·have:=ha.len;omega
 have h4: -1000000000≤(gY a b).next∧(gY a b).next≤1000000000:=by
  have q1:=xf ha.nd hb.nd;have q2:=AJ ha.nd hb.nd;have:=ha.next;have:=hb.next;have:=ha.len;have:=hb.len;unfold gY;split
  ·simp only;omega
  ·omega
 exact⟨hin,hin,h1,h1,h2,h2,by rw[zb];exact h3,h4,h4⟩
def kV(a b:List bq):List bq:=a.map fun x=>match kY b x.gid with|some y=>gY x y|none=>x
theorem qU(a b:List bq):(kV a b).length=a.length:=by simp[kV]
def oG(a b:List bq):List bq:=kV a b++b.filter fun x=>(kY a x.gid).isNone
def oT(acc:List bq)(x:bq):List bq:=acc++[if(acc.any fun y=>decide (y.name=x.name))=true then {x with name:=k_ x.name x.gid} else x]
def qw(l:List bq):List bq:=l.foldl oT []
def lj(a b:List bq)(G:List Int):List bq:=qw (fc (·.gid) ((oG a b).filter fun x=> !decide (x.gid∈G)))
structure mr (l:List bq):Prop where
 len:l.length≤5
 mh:∀b∈l,Good b
structure EJ where
 i:Nat
 v:Nat
 n:Nat
def EG(u5:Nat)(G:List Int)(v:Nat)(rows:List (List T)):List (Nat×Ob):=[(5,⟨u5,1,true,true,[[ints G]]⟩),(16,⟨v,7,true,false,rows⟩)]
def H5(u5:Nat)(a b:List bq)(G:List Int)(s:EJ):St:={t:=[(0,.c (boxes a)),(1,.c (boxes b)),(5,.c (.ptr 5 u5 0 0)),(7,.c (.row 16 s.v 0 s.i)),(8,.c (.fn 476 [])),(17,.c (boxes a)),(18,.c (I a.length)),(19,.c (I s.i))],o:=EG u5 G s.v (((kV a b).take s.i).map af),n:=s.n}
def Ln(u5:Nat)(a b:List bq)(G:List Int)(s:EJ):St:={t:=[(0,.c (boxes a)),(1,.c (boxes b)),(5,.c (.ptr 5 u5 0 0)),(7,.c (.row 16 s.v 0 s.i)),(8,.c (.fn 476 [])),(17,.c (boxes a)),(18,.c (I a.length)),(19,.c (I s.i)),(20,.c (.bool false))],o:=EG u5 G s.v (((kV a b).take s.i).map af),n:=s.n}
structure Kt (M:Nat→Option Body):Prop where
 copy:cm.k M
 join:gE.k M
 at_:eI.k M
 del:aF.k M
 c2:fj.k M
 sort:aZ.k M
 c3:fi.k M
 has:bd.k M
 c4:fh.k M
 name:cB.k M
theorem H0(K:Kt M)(k u5:Nat)(a b:List bq)(G:List Int)(ha:mr a)(hb:mr b)(s:EJ)(hs:s.i<a.length):
  ∃v' n',cz (run M) k bp.l0 (H5 u5 a b G s)=some (.normal,H5 u5 a b G ⟨s.i+1,v',n'⟩):=by
 obtain⟨i,v,n⟩:=s;simp only at hs;have hla:=ha.len;have hlb:=hb.len;have gx:=ha.mh _ (ax hs);have h1:=eI.ak K.at_ b a[i].gid (by omega);have e5:=cA (i:=i) (by omega);have e6:i+1≤4294967296:=by omega
 have hl:=qU a b;have e7:(((kV a b).take i).map af).length=i:=by simp[hl];omega
 have e9:(a.map af).length=a.length:=by simp
 have e8:((kV a b).take (i+1)).map af=((kV a b).take i).map af++[af (kV a b)[i]]:=by
  rw[hH _ _ (by rw[hl];exact hs),cg];rfl
 have a1:∀hh,(a.map af)[i]'hh=af a[i]:=by intro hh;simp
 cases hq:mI b a[i].gid with
 |none=>
  rw[hq] at h1;have h2:=cm.ak K.copy a[i] gx.vz;have ef:(kV a b)[i]'(by rw[hl];exact hs)=a[i]:=by
   simp only[kV,fJ,pd hq]
  rw[ef] at e8;simp only[H5,EG,e8];simp only[af,b7,boxes,ae,ints,dA] at h1 h2 a1 ⊢;generalize List.map af ((kV a b).take i)=rr at*;generalize a.map af=ra at*;generalize b.map af=rb at*;generalize a[i].ae.map ah=rm at*;generalize aA a[i].gone=rg at*;generalize aA G=gj at*;simp (maxSteps:=9^9) [bp.l0,aa,setAt,h1,h2,hs,e5,e6,e7,e9,a1,ab]
 |some q=>
  rw[hq] at h1;obtain⟨hq1,hq2⟩:=jT hq;have gy:=hb.mh _ (ax hq1);have h3:=gE.ak K.join a[i] b[q] (gx.AI gy);have h2:=cm.ak K.copy (gY a[i] b[q]) (td (gx.AI gy));have ef:(kV a b)[i]'(by rw[hl];exact hs)=gY a[i] b[q]:=by
   simp only[kV,fJ,hq2]
  rw[ef] at e8;have e10:(b.map af).length=b.length:=by simp
  have a2:∀hh,(b.map af)[q]'hh=af b[q]:=by intro hh;simp
  simp only[H5,EG,e8];simp only[af,b7,boxes,ae,ints,dA] at h1 h2 h3 a1 a2 ⊢;generalize gY a[i] b[q]=j at*;generalize List.map af ((kV a b).take i)=rr at*;generalize a.map af=ra at*;generalize b.map af=rb at*;generalize a[i].ae.map ah=rm at*;generalize aA a[i].gone=rg at*;generalize b[q].ae.map ah=rmb at*;generalize aA b[q].gone=rgb at*;generalize j.ae.map ah=rmj at*;generalize aA j.gone=rgj at*;generalize aA G=gj at*;simp (maxSteps:=9^9) [bp.l0,aa,setAt,h1,h2,h3,hs,hq1,e5,e6,e7,e9,e10,a1,a2,ab]
theorem J0(k u5:Nat)(a b:List bq)(G:List Int)(s:EJ)(hs:¬s.i<a.length):
  ∃n',cz (run M) k bp.l0 (H5 u5 a b G s)=some (.exit 0,Ln u5 a b G ⟨s.i,s.v,n'⟩):=by
 obtain⟨i,v,n⟩:=s;simp only at hs;simp only[H5,Ln,EG];generalize List.map af ((kV a b).take i)=rr at*;simp only[boxes,ints];generalize a.map af=ra at*;generalize b.map af=rb at*;simp (maxSteps:=9^9) [bp.l0,aa,hs]
def ny(a b:List bq)(i:Nat):List bq:=kV a b++(b.take i).filter fun x=>(kY a x.gid).isNone
theorem DB(a b:List bq):ny a b b.length=oG a b:=by simp[ny,oG]
theorem Bz(a b:List bq):ny a b 0=kV a b:=by simp[ny]
theorem DA(a b:List bq)(i:Nat)(hi:i≤b.length):(ny a b i).length≤a.length+i:=by
 have:=bG (fun x:bq=>(kY a x.gid).isNone) (b.take i);simp only[ny,aD,qU];simp at this;omega
def HZ(u5:Nat)(a b:List bq)(G:List Int)(s:EJ):St:={t:=[(0,.c (boxes a)),(5,.c (.ptr 5 u5 0 0)),(7,.c (.row 16 s.v 0 (ny a b s.i).length)),(8,.c (.fn 476 [])),(42,.c (boxes b)),(43,.c (I b.length)),(44,.c (I s.i))],o:=EG u5 G s.v ((ny a b s.i).map af),n:=s.n}
def Lm(u5:Nat)(a b:List bq)(G:List Int)(s:EJ):St:={t:=[(0,.c (boxes a)),(5,.c (.ptr 5 u5 0 0)),(7,.c (.row 16 s.v 0 (ny a b s.i).length)),(8,.c (.fn 476 [])),(42,.c (boxes b)),(43,.c (I b.length)),(44,.c (I s.i)),(45,.c (.bool false))],o:=EG u5 G s.v ((ny a b s.i).map af),n:=s.n}
theorem HX(K:Kt M)(k u5:Nat)(a b:List bq)(G:List Int)(ha:mr a)(hb:mr b)(s:EJ)(hs:s.i<b.length):
  ∃v' n',cz (run M) k bp.l1 (HZ u5 a b G s)=some (.normal,HZ u5 a b G ⟨s.i+1,v',n'⟩):=by
 obtain⟨i,v,n⟩:=s;simp only at hs;have hla:=ha.len;have hlb:=hb.len;have gx:=hb.mh _ (ax hs);have h1:=eI.ak K.at_ a b[i].gid (by omega);have e5:=cA (i:=i) (by omega);have hl:=DA a b i (by omega);have e7:((ny a b i).map af).length=(ny a b i).length:=by simp
 have e6:(ny a b i).length+1≤4294967296:=by omega
 have e9:(b.map af).length=b.length:=by simp
 have a1:∀hh,(b.map af)[i]'hh=af b[i]:=by intro hh;simp
 have eu:ny a b (i+1)=ny a b i++if(kY a b[i].gid).isNone=true then [b[i]] else []:=by
  simp only[ny,hH _ _ hs,List.filter_append,b4];cases q:(kY a b[i].gid).isNone<;>simp[q]
 cases hq:mI a b[i].gid with
 |some q=>
  rw[hq] at h1;obtain⟨hq1,hq2⟩:=jT hq;have nq:¬(q:Int)<0:=by omega
  rw[hq2] at eu;simp only[Option.isNone_some,aB,if_false,cR] at eu;simp only[HZ,EG,eu];simp only[af,boxes,ae,ints,dA] at h1 a1 ⊢;generalize List.map af (ny a b i)=rr at*;generalize (ny a b i).length=nr at*;generalize a.map af=ra at*;generalize b.map af=rb at*;generalize b[i].ae.map ah=rm at*;generalize aA b[i].gone=rg at*;generalize aA G=gj at*;simp (maxSteps:=9^9) [bp.l1,setAt,h1,hs,nq,e5,e9,a1,ab]
 |none=>
  rw[hq] at h1;have h2:=cm.ak K.copy b[i] gx.vz;rw[pd hq] at eu;simp only[Option.isNone_none,if_true] at eu;simp only[HZ,EG,eu,cg,bu,bS,aD,bM];simp only[af,b7,boxes,ae,ints,dA] at h1 h2 a1 ⊢;generalize List.map af (ny a b i)=rr at*;generalize (ny a b i).length=nr at*;generalize a.map af=ra at*;generalize b.map af=rb at*;generalize b[i].ae.map ah=rm at*;generalize aA b[i].gone=rg at*;generalize aA G=gj at*;simp (maxSteps:=9^9) [bp.l1,setAt,h1,h2,hs,e5,e6,e7,e9,a1,ab]
theorem JZ(k u5:Nat)(a b:List bq)(G:List Int)(s:EJ)(hs:¬s.i<b.length):
  ∃n',cz (run M) k bp.l1 (HZ u5 a b G s)=some (.exit 2,Lm u5 a b G ⟨s.i,s.v,n'⟩):=by
 obtain⟨i,v,n⟩:=s;simp only at hs;simp only[HZ,Lm,EG];generalize List.map af (ny a b i)=rr at*;simp only[boxes,ints];generalize a.map af=ra at*;generalize b.map af=rb at*;simp (maxSteps:=9^9) [bp.l1,hs]
def pV(acc:List bq)(x:bq):bq:=if(acc.any fun y=>decide (y.name=x.name))=true then {x with name:=k_ x.name x.gid} else x
theorem qG(acc:List bq)(x:bq):oT acc x=acc++[pV acc x]:=rfl
theorem Fq(l:List bq)(x:bq):qw (l++[x])=qw l++[pV (qw l) x]:=by
 unfold qw;rw[List.foldl_append];rfl
theorem tH:∀(l acc:List bq),(l.foldl oT acc).length=acc.length+l.length
 |[],acc=>by simp
 |x::l,acc=>by
  rw[eN,tH l,qG];simp;omega
theorem lB(l:List bq):(qw l).length=l.length:=by unfold qw;rw[tH];simp
def jD(l:List bq)(i:Nat):List bq:=qw (l.take i)++l.drop i
theorem wQ(l:List bq):jD l 0=l:=by simp[jD,qw]
theorem yF(l:List bq):jD l l.length=qw l:=by simp[jD]
theorem o5(l:List bq)(i:Nat):(jD l i).length=l.length:=by
 simp only[jD,aD,lB,gd,List.length_drop];omega
theorem wS(l:List bq)(i:Nat)(h:i<l.length):(jD l i)[i]'(by rw[o5];exact h)=l[i]:=by
 have e:(qw (l.take i)).length=i:=by rw[lB];simp;omega
 simp only[jD];rw[List.getElem_append_right (by omega)];simp[e]
theorem wR(l:List bq)(i:Nat)(h:i<l.length):jD l (i+1)=(jD l i).set i (pV (qw (l.take i)) l[i]):=by
 have e:(qw (l.take i)).length=i:=by rw[lB];simp;omega
 have hd:l.drop i=l[i]::l.drop (i+1):=bA h;simp only[jD,hH l i h,Fq];rw[List.set_append_right _ _ (by omega),e,Nat.sub_self];simp;rw[hd];rfl
def Jg(L:List bq)(Z:List (List T))(s:EJ):St:={t:=[(7,.c (.row 16 s.v 0 L.length)),(65,.c (.row 16 s.v 0 L.length)),(66,.c (I L.length)),(67,.c (I s.i))],o:=[(16,⟨s.v,7,true,false,(jD L s.i).map af++Z⟩)],n:=s.n}
def Ll(L:List bq)(Z:List (List T))(s:EJ):St:={t:=[(7,.c (.row 16 s.v 0 L.length)),(65,.c (.row 16 s.v 0 L.length)),(66,.c (I L.length)),(67,.c (I s.i)),(68,.c (.bool false))],o:=[(16,⟨s.v,7,true,false,(jD L s.i).map af++Z⟩)],n:=s.n}
theorem HV(K:Kt M)(k:Nat)(L:List bq)(Z:List (List T))(hL:L.length≤1048576)(hb:∀b∈L,b.name.length≤1048576∧b.gid≤9223372036854775807)(s:EJ)(hs:s.i<L.length):
  ∃n',cz (run M) k bp.l2 (Jg L Z s)=some (.normal,Jg L Z ⟨s.i+1,s.v,n'⟩):=by
 obtain⟨i,v,n⟩:=s;simp only at hs;have hx:=hb _ (ax hs);have hr1:(qw (L.take i)).length=i:=by rw[lB];simp;omega
 have h1:=bd.ak K.has (fun y=>fh.ak K.c4 y L[i]) (qw (L.take i)) (by omega);have h2:=cB.ak K.name L[i].name L[i].gid hx.1 hx.2;have e5:=cA (i:=i) (by omega);have el:((jD L i).map af).length=L.length:=by simp[o5]
 have e7:i<((jD L i).map af++Z).length:=by simp[o5];omega
 have e8:i≤((jD L i).map af++Z).length:=by omega
 have a1:∀hh,((jD L i).map af++Z)[i]'hh=af L[i]:=by
  intro hh;rw[List.getElem_append_left (by omega)];simp only[fJ,wS L i hs]
 have e9:((jD L i).map af++Z).take i=(qw (L.take i)).map af:=by
  rw[List.take_append_of_le_length (by omega),←List.map_take];congr 1;simp only[jD];rw[List.take_append_of_le_length (by omega)];exact ab (by omega)
 have t3:(jD L (i+1)).map af++Z=((jD L i).map af++Z).set i (af (pV (qw (L.take i)) L[i])):=by
  rw[wR L i hs,iE,List.set_append_left _ _ (by omega)]
 have e10:i≤L.length:=by omega
 simp only[Jg,t3];clear t3 el;unfold pV;generalize (qw (L.take i)).any (fun y=>decide (y.name=L[i].name))=w at*;simp only[boxes] at h1;generalize (qw (L.take i)).map af=rp at*;generalize (jD L i).map af++Z=rr at*;generalize k_ L[i].name L[i].gid=nm at*;simp only[af,ae,ints] at h1 a1 ⊢;generalize L[i]=x at*;generalize L.length=N at*;generalize hm:x.ae.map ah=rm at*;generalize hg:aA x.gone=rg at*;cases w
 ·simp only[aB,if_false];rw[hm,hg];have e11:rr.set i [I x.gid,S x.name,I x.time,I x.eJ,I x.next,T.sl false 4 rm,T.sl false 1 rg]=rr:=by
   rw[←a1 e7,List.set_getElem_self]
  rw[e11];simp (maxSteps:=9^9) [bp.l2,setAt,hs,h1,e5,e7,e8,e9,e10,a1,ab]
 ·simp only[if_true];rw[hm,hg];simp (maxSteps:=9^9) [bp.l2,setAt,hs,h1,h2,e5,e7,e8,e9,e10,a1,ab]
theorem JY(k:Nat)(L:List bq)(Z:List (List T))(s:EJ)(hs:¬s.i<L.length):
  ∃n',cz (run M) k bp.l2 (Jg L Z s)=some (.exit 4,Ll L Z ⟨s.i,s.v,n'⟩):=by
 obtain⟨i,v,n⟩:=s;simp only at hs;simp only[Jg,Ll];generalize (jD L i).map af++Z=rr at*;simp (maxSteps:=9^9) [bp.l2,hs]
theorem H4(K:Kt M)(k u5:Nat)(a b:List bq)(G:List Int)(ha:mr a)(hb:mr b)(v n:Nat)(hk:a.length<k):
  ∃v' n',fx (cz (run M) k bp.l0) k (H5 u5 a b G ⟨0,v,n⟩)=some (.exit 0,Ln u5 a b G ⟨a.length,v',n'⟩):=by
 obtain⟨r,hr,⟨⟨i,v',n'⟩,rfl,hi⟩⟩:=lN (f:=cz (run M) k bp.l0) (H5 u5 a b G) (fun s=>s.i≤a.length) (fun s=>a.length-s.i) (fun r=>∃s',r=(.exit 0,Ln u5 a b G s')∧s'.i=a.length)
  (fun s hs=>by
   by_cases c:s.i<a.length
   ·left;obtain⟨v',n',hh⟩:=H0 K k u5 a b G ha hb s c;exact⟨_,hh,by simp only;omega,by simp only;omega⟩
   ·right;obtain⟨n',hh⟩:=J0 (M:=M) k u5 a b G s c;exact⟨_,hh,by simp,_,rfl,by simp only;omega⟩) k ⟨0,v,n⟩ (by simp) (by simp only;omega)
 simp only at hi;subst hi;exact⟨v',n',hr⟩
theorem HY(K:Kt M)(k u5:Nat)(a b:List bq)(G:List Int)(ha:mr a)(hb:mr b)(v n:Nat)(hk:b.length<k):
  ∃v' n',fx (cz (run M) k bp.l1) k (HZ u5 a b G ⟨0,v,n⟩)=some (.exit 2,Lm u5 a b G ⟨b.length,v',n'⟩):=by
 obtain⟨r,hr,⟨⟨i,v',n'⟩,rfl,hi⟩⟩:=lN (f:=cz (run M) k bp.l1) (HZ u5 a b G) (fun s=>s.i≤b.length) (fun s=>b.length-s.i) (fun r=>∃s',r=(.exit 2,Lm u5 a b G s')∧s'.i=b.length)
  (fun s hs=>by
   by_cases c:s.i<b.length
   ·left;obtain⟨v',n',hh⟩:=HX K k u5 a b G ha hb s c;exact⟨_,hh,by simp only;omega,by simp only;omega⟩
   ·right;obtain⟨n',hh⟩:=JZ (M:=M) k u5 a b G s c;exact⟨_,hh,by simp,_,rfl,by simp only;omega⟩) k ⟨0,v,n⟩ (by simp) (by simp only;omega)
 simp only at hi;subst hi;exact⟨v',n',hr⟩
theorem HW(K:Kt M)(k:Nat)(L:List bq)(Z:List (List T))(hL:L.length≤1048576)(hb:∀b∈L,b.name.length≤1048576∧b.gid≤9223372036854775807)(v n:Nat)(hk:L.length<k):
  ∃n',fx (cz (run M) k bp.l2) k (Jg L Z ⟨0,v,n⟩)=some (.exit 4,Ll L Z ⟨L.length,v,n'⟩):=by
 obtain⟨r,hr,⟨⟨i,v',n'⟩,rfl,hi,hv⟩⟩:=lN (f:=cz (run M) k bp.l2) (Jg L Z) (fun s=>s.i≤L.length∧s.v=v) (fun s=>L.length-s.i) (fun r=>∃s',r=(.exit 4,Ll L Z s')∧s'.i=L.length∧s'.v=v)
  (fun s hs=>by
   by_cases c:s.i<L.length
   ·left;obtain⟨n',hh⟩:=HV K k L Z hL hb s c;exact⟨_,hh,⟨by simp only;omega,hs.2⟩,by simp only;omega⟩
   ·right;obtain⟨n',hh⟩:=JY (M:=M) k L Z s c;have:=hs.1;exact⟨_,hh,by simp,_,rfl,by simp only;omega,hs.2⟩) k ⟨0,v,n⟩ ⟨by simp,rfl⟩ (by simp only;omega)
 simp only at hi hv;subst hi;subst hv;exact⟨n',hr⟩
theorem lJ{l:List bq}{g:Int}{b:bq}(h:kY l g=some b):b∈l∧b.gid=g:=⟨List.mem_of_find?_eq_some h,by simpa using List.find?_some h⟩
theorem Bg{a b:List bq}(x:bq)(h:x∈oG a b):x∈a∨x∈b∨∃y∈a,∃z∈b,y.gid=z.gid∧x=gY y z:=by
 rcases List.mem_append.1 h with q|q
 ·obtain⟨y,hy,e⟩:=List.mem_map.1 q;cases hz:kY b y.gid with
  |none=>rw[hz] at e;simp only at e;subst e;exact .inl hy
  |some z=>
   rw[hz] at e;simp only at e;obtain⟨h1,h2⟩:=lJ hz;exact .inr (.inr ⟨y,hy,z,h1,h2.symm,e.symm⟩)
 ·exact .inr (.inl (List.mem_filter.1 q).1)
theorem qP(a b:bq):(gY a b).name=a.name∨(gY a b).name=b.name:=by
 unfold gY;split
 ·simp only;split
  ·exact .inr rfl
  ·exact .inl rfl
 ·exact .inl rfl
theorem oE(a b:bq):(gY a b).gid=a.gid:=by unfold gY;split<;>rfl
theorem CD{a b:List bq}(ha:mr a)(hb:mr b)(x:bq)(h:x∈oG a b):x.name.length≤12∧x.gid≤9999:=by
 have hg:∀{c:bq},Good c→c.name.length≤12∧c.gid≤9999:=fun {c} hc=>⟨(nK hc.name).2,hc.gid.2⟩
 rcases Bg x h with q|q|⟨y,hy,z,hz,e,rfl⟩
 ·exact hg (ha.mh x q)
 ·exact hg (hb.mh x q)
 ·have h1:=hg (ha.mh y hy);have h2:=hg (hb.mh z hz);rw[oE];rcases qP y z with q|q<;>rw[q]
  ·exact h1
  ·exact⟨h2.1,h1.2⟩
theorem Bh(a b:List bq):(oG a b).length≤a.length+b.length:=by
 have:=bG (fun x:bq=>(kY a x.gid).isNone) b;simp only[oG,aD,qU];omega
theorem bp.ak(h:bp.k M)(a b:List bq)(G:List Int)(ha:mr a)(hb:mr b)(hG:G.length≤4194304):
  run M 467 [.c (boxes a),.c (boxes b),.c (ints G)] []=some (.c (.sl true 7 ((lj a b G).map af)),[]):=by
 obtain⟨h0,k1,k2,k3,k4,k5,k6,k7,k8,k9,k10⟩:=h;have K:Kt M:=⟨k1,k2,k3,k4,k5,k6,k7,k8,k9,k10⟩;have hla:=ha.len;have hlb:=hb.len;refine au (b:=bp.m) h0 ⟨a.length+b.length+21, ?_⟩;generalize hk:a.length+b.length+21=k;obtain⟨v1,n1,r1⟩:=H4 K k 2000000 a b G ha hb 2000032 2000128 (by omega);obtain⟨v2,n2,r2⟩:=HY K k 2000000 a b G ha hb v1 (n1+48) (by omega);have hc2:=fun x=>fj.ak k5 x G hG
 have hal:=Bh a b;have h5:=aF.ak k4 hc2 (oG a b) (by omega);have hkl:((oG a b).filter fun x=> !decide (x.gid∈G)).length≤(oG a b).length:=bG _ _;have hnm:∀x∈fc (fun x:bq=>x.gid) ((oG a b).filter fun x=> !decide (x.gid∈G)),x.name.length≤1048576∧x.gid≤9223372036854775807:=fun x hx=>by
  have:=CD ha hb x (List.mem_filter.1 (qC.1 hx)).1;omega
 unfold lj;generalize hz:List.replicate ((oG a b).length-((oG a b).filter fun x=> !decide (x.gid∈G)).length) sZ=Z at*;generalize hl1:((oG a b).filter fun x=> !decide (x.gid∈G))=l1 at*;have h6:=aZ.ak k6 (k:=fun x:bq=>x.gid) (fi.ak k7) l1 Z (by omega);have hl2:(fc (fun x:bq=>x.gid) l1).length=l1.length:=iK _;generalize hs2:fc (fun x:bq=>x.gid) l1=l2 at*;obtain⟨n3,r3⟩:=HW K k l2 Z (by omega) hnm v2 (n2+64+32+48) (by omega);have el0:((oG a b).map af).length=(oG a b).length:=by simp
 have el1:l1.length≤(l1.map af++Z).length:=by simp
 have el2:l1.length≤(l2.map af++Z).length:=by simp[hl2]
 have el4:l1.length≤((qw l2).map af++Z).length:=by simp[lB,hl2]
 have el5:(((qw l2).map af++Z).take l1.length)=(qw l2).map af:=by
  rw[List.take_append_of_le_length (by simp[lB,hl2])];exact ab (by simp[lB,hl2])
 have hfl:=qU a b;have ea:(a.map af).length=a.length:=by simp
 have eb:(b.map af).length=b.length:=by simp
 have ez:((0:Nat):Int)=0:=rfl;have hfa:(kV a b).take a.length=kV a b:=ab (by omega);simp only[H5,Ln,EG,List.take_zero,bS,hfa,ez] at r1;simp only[HZ,Lm,EG,Bz,DB,hfl,ez] at r2;have hra:jD l2 l1.length=qw l2:=by rw[←hl2];exact yF l2
 simp only[Jg,Ll,wQ,ez,hl2,hra] at r3;simp only[sI,cR] at h5 h6;generalize (qw l2).map af=R4 at*;generalize R4++Z=R4Z at*;generalize l2.map af++Z=R2Z at*;generalize l1.map af++Z=R1Z at*;clear hl1 hs2 hz hc2 K hnm hl2 hra;generalize (oG a b).map af=R0 at*;generalize (oG a b).length=N0 at*;generalize (kV a b).map af=RF at*;generalize l1.length=N1 at*;simp only[boxes,ints] at*;generalize a.map af=ra at*;generalize b.map af=rb at*;generalize aA G=rg at*;simp (maxSteps:=9^9) [ba,bp.m,bp.b,aa,r1,r2,r3,h5,h6,ea,eb,el0,el1,el4,el5]
def fz(l:List bq):List Int:=l.map (·.gid)
theorem xq(l:List bq)(s:List Int):l.foldl (fun s m=>kz s m.gid) s=(fz l).foldl kz s:=by
 simp only[fz,List.foldl_map]
def KG(a b:List bq)(G:List Int)(i:Nat)(s:List Int)(x:Nat×Nat):St:={t:=[(0,.c (boxes a)),(1,.c (boxes b)),(2,.c (ints G)),(7,.c (.row 16 x.1 0 s.length)),(8,.c (I i))],o:=[(16,⟨x.1,1,true,false,aA s⟩)],n:=x.2}
def L5(a b:List bq)(G:List Int)(s:List Int)(x:Nat×Nat):St:={t:=[(0,.c (boxes a)),(1,.c (boxes b)),(2,.c (ints G)),(7,.c (.row 16 x.1 0 s.length)),(8,.c (I a.length)),(20,.c (.bool false))],o:=[(16,⟨x.1,1,true,false,aA s⟩)],n:=x.2}
def KF(a b:List bq)(G:List Int)(i:Nat)(s:List Int)(x:Nat×Nat):St:={t:=[(0,.c (boxes a)),(1,.c (boxes b)),(2,.c (ints G)),(7,.c (.row 16 x.1 0 s.length)),(9,.c (I i))],o:=[(16,⟨x.1,1,true,false,aA s⟩)],n:=x.2}
def L4(a b:List bq)(G:List Int)(s:List Int)(x:Nat×Nat):St:={t:=[(0,.c (boxes a)),(1,.c (boxes b)),(2,.c (ints G)),(7,.c (.row 16 x.1 0 s.length)),(9,.c (I b.length)),(41,.c (.bool false))],o:=[(16,⟨x.1,1,true,false,aA s⟩)],n:=x.2}
theorem HK(kin:bf.k M)(kput:bU.k M)(k:Nat)(a b:List bq)(G:List Int)(ha:a.length≤5)(hk:a.length<k)(x:Nat×Nat):
  ∃y,fx (cz (run M) k aW.l0) k (KG a b G 0 [] x)=some (.exit 0,L5 a b G (a.foldl (fun s m=>kz s m.gid) []) y):=by
 obtain⟨g,hr⟩:=jB (f:=cz (run M) k aW.l0) a (fun s m=>kz s m.gid) (fun i s=>s.length≤i) (KG a b G) 0 (L5 a b G)
  (fun i h s hs=>by have:=su s a[i].gid;omega)
  (fun i hi s x hs=>by
   obtain⟨v,n⟩:=x;have e5:=cA (i:=i) (by omega);have e9:=aS s;have hra:(a.map af).length=a.length:=by simp
   have h1:=bf.ak kin s a[i].gid (by omega);have h2:=bU.ak kput s a[i].gid (by omega);have a1:∀hh,(a.map af)[i]'hh=af a[i]:=by intro hh;simp
   have e10:=aS (la s a[i].gid);have hfl:=kX (la s a[i].gid);simp only[aE,kz];by_cases c:a[i].gid∈s
   ·rw[decide_eq_true c] at h1;rw[if_pos c];simp only[KG];simp only[af,boxes,ae,ints] at a1 h1 ⊢;generalize aA s=rs at*;generalize a.map af=ra at*;generalize b.map af=rb at*;simp (maxSteps:=9^9) [aW.l0,hra,hi,h1,a1,e5,e9,ab]
   ·rw[decide_eq_false c] at h1;rw[if_neg c];simp only[KG];simp only[af,boxes,ae,ints] at a1 h1 h2 ⊢;generalize aA (la s a[i].gid)=rp at*;generalize aA s=rs at*;generalize a.map af=ra at*;generalize b.map af=rb at*;simp (maxSteps:=9^9) [aW.l0,hra,hi,h1,h2,a1,e5,e9,e10,hfl,ab])
  (fun s x hs=>by
   obtain⟨v,n⟩:=x;have hra:(a.map af).length=a.length:=by simp
   simp only[aE,KG,L5,boxes,ints];generalize a.map af=ra at*;generalize b.map af=rb at*;simp (maxSteps:=9^9) [aW.l0,hra]) [] (by simp)
 exact⟨_,gz (hr x) (by omega)⟩
theorem HJ(kin:bf.k M)(kput:bU.k M)(k:Nat)(a b:List bq)(G:List Int)(hb:b.length≤5)(hk:b.length<k)(s0:List Int)(h0:s0.length≤5)(x:Nat×Nat):
  ∃y,fx (cz (run M) k aW.l1) k (KF a b G 0 s0 x)=some (.exit 2,L4 a b G (b.foldl (fun s m=>kz s m.gid) s0) y):=by
 obtain⟨g,hr⟩:=jB (f:=cz (run M) k aW.l1) b (fun s m=>kz s m.gid) (fun i s=>s.length≤5+i) (KF a b G) 2 (L4 a b G)
  (fun i h s hs=>by have:=su s b[i].gid;omega)
  (fun i hi s x hs=>by
   obtain⟨v,n⟩:=x;have e5:=cA (i:=i) (by omega);have e9:=aS s;have hra:(b.map af).length=b.length:=by simp
   have h1:=bf.ak kin s b[i].gid (by omega);have h2:=bU.ak kput s b[i].gid (by omega);have a1:∀hh,(b.map af)[i]'hh=af b[i]:=by intro hh;simp
   have e10:=aS (la s b[i].gid);have hfl:=kX (la s b[i].gid);simp only[aE,kz];by_cases c:b[i].gid∈s
   ·rw[decide_eq_true c] at h1;rw[if_pos c];simp only[KF];simp only[af,boxes,ae,ints] at a1 h1 ⊢;generalize aA s=rs at*;generalize a.map af=ra at*;generalize b.map af=rb at*;simp (maxSteps:=9^9) [aW.l1,hra,hi,h1,a1,e5,e9,ab]
   ·rw[decide_eq_false c] at h1;rw[if_neg c];simp only[KF];simp only[af,boxes,ae,ints] at a1 h1 h2 ⊢;generalize aA (la s b[i].gid)=rp at*;generalize aA s=rs at*;generalize a.map af=ra at*;generalize b.map af=rb at*;simp (maxSteps:=9^9) [aW.l1,hra,hi,h1,h2,a1,e5,e9,e10,hfl,ab])
  (fun s x hs=>by
   obtain⟨v,n⟩:=x;have hra:(b.map af).length=b.length:=by simp
   simp only[aE,KF,L4,boxes,ints];generalize a.map af=ra at*;generalize b.map af=rb at*;simp (maxSteps:=9^9) [aW.l1,hra]) s0 (by omega)
 exact⟨_,gz (hr x) (by omega)⟩
def mn(a b:List bq)(g:Int):bq:=match kY a g,kY b g with
 |some x,some y=>gY x y
 |some x,none=>x
 |none,some y=>y
 |none,none=>⟨0,[],0,0,0,[],[]⟩
def yx(a b:List bq)(G:List Int)(out:List bq)(g:Int):List bq:=if g∈G then out else out++[mn a b g]
def G3(a b:List bq)(G gs:List Int)(v16:Nat)(i:Nat)(out:List bq)(x:Nat×Nat):St:={t:=[(0,.c (boxes a)),(1,.c (boxes b)),(2,.c (ints G)),(7,.c (.row 16 v16 0 gs.length)),(10,.c (.row 59 x.1 0 out.length)),(11,.c (I i))],o:=[(16,⟨v16,1,true,false,aA gs⟩),(59,⟨x.1,7,true,false,out.map af⟩)],n:=x.2}
def L3(a b:List bq)(G gs:List Int)(v16:Nat)(out:List bq)(x:Nat×Nat):St:={t:=[(0,.c (boxes a)),(1,.c (boxes b)),(2,.c (ints G)),(7,.c (.row 16 v16 0 gs.length)),(10,.c (.row 59 x.1 0 out.length)),(11,.c (I gs.length)),(63,.c (.bool false))],o:=[(16,⟨v16,1,true,false,aA gs⟩),(59,⟨x.1,7,true,false,out.map af⟩)],n:=x.2}
structure Nk (M:Nat→Option Body):Prop where
 G5:bf.k M
 copy:bX.k M
 join:eE.k M
 at_:fU.k M
theorem JT(k:Nat)(a b:List bq)(G gs:List Int)(v16:Nat)(out:List bq)(x:Nat×Nat):
  ∃y,cz (run M) k aW.l2 (G3 a b G gs v16 gs.length out x)=some (.exit 4,L3 a b G gs v16 out y):=by
 obtain⟨v,n⟩:=x;simp only[aE,G3,L3,boxes,ints];generalize a.map af=ra at*;generalize b.map af=rb at*;generalize out.map af=ro at*;simp (maxSteps:=9^9) [aW.l2,aa]
theorem HI(K:Nk M)(k:Nat)(a b:List bq)(ha:mr a)(hb:mr b)(G gs:List Int)(hG:G.length≤4194304)(hgs:gs.length≤100)(hmem:∀g∈gs,g∈fz a∨g∈fz b)(v16 i:Nat)(hi:i<gs.length)(out:List bq)(ho:out.length≤i)(x:Nat×Nat):
  ∃y,cz (run M) k aW.l2 (G3 a b G gs v16 i out x)=some (.normal,G3 a b G gs v16 (i+1) (yx a b G out gs[i]) y):=by
 obtain⟨v,n⟩:=x;have hla:=ha.len;have hlb:=hb.len;have h1:=bf.ak K.G5 G gs[i] (by omega);have h2:=fU.ak K.at_ a gs[i] (by omega);have h3:=fU.ak K.at_ b gs[i] (by omega);have e5:=cA (i:=i) (by omega);have e6:out.length+1≤4294967296:=by omega
 have eg:=aS gs;have a0:∀hh,(aA gs)[i]'hh=[I gs[i]]:=by intro hh;simp[aA]
 have eo:(out.map af).length=out.length:=by simp
 have ea:(a.map af).length=a.length:=by simp
 have eb:(b.map af).length=b.length:=by simp
 simp only[aE];unfold yx;by_cases c:gs[i]∈G
 ·rw[decide_eq_true c] at h1;rw[if_pos c];simp only[G3];simp only[boxes,ints] at*;generalize aA gs=rg at*;generalize aA G=rG at*;generalize a.map af=ra at*;generalize b.map af=rb at*;generalize out.map af=ro at*;simp (maxSteps:=9^9) [aW.l2,aa,hi,h1,e5,eg,a0]
 ·rw[decide_eq_false c] at h1;rw[if_neg c];cases hp:mI a gs[i] with
  |some p=>
   obtain⟨p1,p2⟩:=jT hp;have gp:=ha.mh _ (ax p1);have a1:∀hh,(a.map af)[p]'hh=af a[p]:=by intro hh;simp
   rw[hp] at h2;cases hq:mI b gs[i] with
   |some q=>
    obtain⟨q1,q2⟩:=jT hq;have gq:=hb.mh _ (ax q1);have a2:∀hh,(b.map af)[q]'hh=af b[q]:=by intro hh;simp
    rw[hq] at h3;have h4:=eE.ak K.join a[p] b[q] (gp.AI gq);have ej:mn a b gs[i]=gY a[p] b[q]:=by simp only[mn,p2,q2]
    rw[ej];simp only[G3,cg,bu,bS,aD,bM];simp only[af,b7,boxes,ae,ints,dA] at h1 h2 h3 h4 a1 a2 ⊢;generalize gY a[p] b[q]=j at*;generalize aA gs=rg at*;generalize aA G=rG at*;generalize a.map af=ra at*;generalize b.map af=rb at*;generalize out.map af=ro at*;generalize a[p].ae.map ah=r1 at*;generalize aA a[p].gone=r2 at*;generalize b[q].ae.map ah=r3 at*;generalize aA b[q].gone=r4 at*;generalize j.ae.map ah=r5 at*;generalize aA j.gone=r6 at*;simp (maxSteps:=9^9) [aW.l2,aa,hi,p1,q1,h1,h2,h3,h4,e5,e6,eg,a0,a1,a2,eo,ea,eb,ab]
   |none=>
    rw[hq] at h3;have h4:=bX.ak K.copy a[p] gp.vz;have ej:mn a b gs[i]=a[p]:=by simp only[mn,p2,pd hq]
    rw[ej];simp only[G3,cg,bu,bS,aD,bM];simp only[af,b7,boxes,ae,ints,dA] at h1 h2 h3 h4 a1 ⊢;generalize aA gs=rg at*;generalize aA G=rG at*;generalize a.map af=ra at*;generalize b.map af=rb at*;generalize out.map af=ro at*;generalize a[p].ae.map ah=r1 at*;generalize aA a[p].gone=r2 at*;simp (maxSteps:=9^9) [aW.l2,aa,hi,p1,h1,h2,h3,h4,e5,e6,eg,a0,a1,eo,ea,ab]
  |none=>
   rw[hp] at h2;cases hq:mI b gs[i] with
   |some q=>
    obtain⟨q1,q2⟩:=jT hq;have gq:=hb.mh _ (ax q1);have a2:∀hh,(b.map af)[q]'hh=af b[q]:=by intro hh;simp
    rw[hq] at h3;have h4:=bX.ak K.copy b[q] gq.vz;have ej:mn a b gs[i]=b[q]:=by simp only[mn,q2,pd hp]
    rw[ej];simp only[G3,cg,bu,bS,aD,bM];simp only[af,b7,boxes,ae,ints,dA] at h1 h2 h3 h4 a2 ⊢;generalize aA gs=rg at*;generalize aA G=rG at*;generalize a.map af=ra at*;generalize b.map af=rb at*;generalize out.map af=ro at*;generalize b[q].ae.map ah=r3 at*;generalize aA b[q].gone=r4 at*;simp (maxSteps:=9^9) [aW.l2,aa,hi,q1,h1,h2,h3,h4,e5,e6,eg,a0,a2,eo,eb,ab]
   |none=>
    exfalso;have n1:=pd hp;have n2:=pd hq;unfold kY at n1 n2;rw[List.find?_eq_none] at n1 n2;rcases hmem _ (ax hi) with z|z
    ·obtain⟨m,hm,e⟩:=List.mem_map.1 z;exact n1 m hm (by simp[e])
    ·obtain⟨m,hm,e⟩:=List.mem_map.1 z;exact n2 m hm (by simp[e])
def ED(v:Nat)(L:List bq)(i:Nat):List (Nat×Ob):=[(59,⟨v,7,true,false,(jD L i).map af⟩)]
def KE(v:Nat)(L:List bq)(i k:Nat)(x:Nat):St:={t:=[(10,.c (.row 59 v 0 L.length)),(14,.c (I i)),(15,.c (I k))],o:=ED v L i,n:=x}
def JS(v:Nat)(L:List bq)(i:Nat)(x:bq):Option Nat→Nat→Out×St
 |none,m=>(.exit 9,{t:=[(10,.c (.row 59 v 0 L.length)),(14,.c (I i)),(15,.c (I i)),(130,.c (.bool false))],o:=ED v L i,n:=m})
 |some _,m=>(.exit 9,{t:=[(10,.c (.row 59 v 0 L.length)),(14,.c (I i))],o:=[(59,⟨v,7,true,false,((jD L i).map af).set i (af {x with name:=k_ x.name x.gid})⟩)],n:=m})
theorem vl(L:List bq)(i k:Nat)(hk:k<i)(hi:i<L.length):(jD L i)[k]'(by rw[o5];omega)=(qw (L.take i))[k]'(by rw[lB];simp;omega):=by
 simp only[jD];rw[List.getElem_append_left]
theorem HH(kn:cr.k M)(v:Nat)(L:List bq)(hL:L.length≤1048576)(hb:∀b∈L,b.name.length≤1048576∧b.gid≤9223372036854775807)(K i:Nat)(hi:i<L.length)(hK:i<K):
  ∃g:Nat→Nat,∀x,fx (cz (run M) K aW.l4) K (KE v L i 0 x)=some (JS v L i L[i] (dV (tJ (fun y:bq=>decide (y.name=L[i].name)) (qw (L.take i))) i) (g x)):=by
 have hx:=hb _ (ax hi);have hrl:(qw (L.take i)).length=i:=by rw[lB];simp;omega
 have h2:=cr.ak kn L[i].name L[i].gid hx.1 hx.2;have el:((jD L i).map af).length=L.length:=by simp[o5]
 have a1:∀hh,((jD L i).map af)[i]'hh=af L[i]:=by
  intro hh;simp only[fJ,wS L i hi]
 obtain⟨g,hg⟩:=mU (f:=cz (run M) K aW.l4) i (tJ (fun y:bq=>decide (y.name=L[i].name)) (qw (L.take i))) (KE v L i) (JS v L i L[i]) (fun q m=>by cases q<;>simp[JS])
  (fun k hk x c=>by
   rw[jY _ _ _ (by omega)] at c;simp only[decide_eq_false_iff_not] at c;have e5:=cA (i:=k) (by omega);have hk2:k<L.length:=by omega
   have a2:∀hh,((jD L i).map af)[k]'hh=af ((qw (L.take i))[k]'(by omega)):=by
    intro hh;simp only[fJ,vl L i k hk hi]
   simp only[KE,ED];simp only[af,ae,ints] at a1 a2 ⊢;generalize (qw (L.take i))[k]'(by omega)=y at*;generalize (jD L i).map af=rr at*;generalize L[i]=z at*;generalize z.ae.map ah=r1 at*;generalize aA z.gone=r2 at*;generalize y.ae.map ah=r3 at*;generalize aA y.gone=r4 at*;simp (maxSteps:=9^9) [aW.l4,aa,hk,hi,hk2,c,e5,el,a1,a2])
  (fun k hk x c=>by
   rw[jY _ _ _ (by omega)] at c;simp only[decide_eq_true_eq] at c;have hk2:k<L.length:=by omega
   have a2:∀hh,((jD L i).map af)[k]'hh=af ((qw (L.take i))[k]'(by omega)):=by
    intro hh;simp only[fJ,vl L i k hk hi]
   simp only[KE,JS,ED];simp only[af,ae,ints] at a1 a2 ⊢;generalize (qw (L.take i))[k]'(by omega)=y at*;generalize (jD L i).map af=rr at*;generalize L[i]=z at*;generalize k_ z.name z.gid=nm at*;generalize z.ae.map ah=r1 at*;generalize aA z.gone=r2 at*;generalize y.ae.map ah=r3 at*;generalize aA y.gone=r4 at*;simp (maxSteps:=9^9) [aW.l4,aa,setAt,hk,hi,hk2,c,h2,el,a1,a2])
  (fun x=>by
   simp only[KE,JS,ED];generalize (jD L i).map af=rr at*;simp (maxSteps:=9^9) [aW.l4,aa])
 exact⟨g,fun x=>gz (hg x) (by omega)⟩
theorem Em(p:bq→Bool)(l:List bq):l.any p=(dV (tJ p l) l.length).isSome:=by
 cases q:dV (tJ p l) l.length with
 |none=>
  have hn:=lZ q;have:l.any p=false:=by
   rw[List.any_eq_false];intro b hb;obtain⟨j,hj,rfl⟩:=bQ hb;have:=hn j hj;rw[jY _ _ _ hj] at this;simp[this]
  rw[this];rfl
 |some k=>
  obtain⟨h1,h2,_⟩:=lY q;rw[jY _ _ _ h1] at h2;have:l.any p=true:=List.any_eq_true.2 ⟨_,ax h1,h2⟩;rw[this];rfl
def K_(v:Nat)(L:List bq)(i:Nat)(x:Nat):St:={t:=[(10,.c (.row 59 v 0 L.length)),(14,.c (I i))],o:=ED v L i,n:=x}
def L2(v:Nat)(L:List bq)(x:Nat):St:={t:=[(10,.c (.row 59 v 0 L.length)),(14,.c (I L.length)),(125,.c (.bool false))],o:=ED v L L.length,n:=x}
theorem HG(kn:cr.k M)(v:Nat)(L:List bq)(hL:L.length≤1048576)(hb:∀b∈L,b.name.length≤1048576∧b.gid≤9223372036854775807)(K:Nat)(hK:L.length<K)(x:Nat):
  ∃y,fx (cz (run M) K aW.l3) K (K_ v L 0 x)=some (.exit 7,L2 v L y):=by
 obtain⟨g,hr⟩:=kq (f:=cz (run M) K aW.l3) L.length (K_ v L) 7 (L2 v L)
  (fun i hi x=>by
   obtain⟨g,hg⟩:=HH kn v L hL hb K i hi (by omega);have e5:=cA (i:=i) (by omega);have hrl:(qw (L.take i)).length=i:=by rw[lB];simp;omega
   have hany:=Em (fun y:bq=>decide (y.name=L[i].name)) (qw (L.take i));rw[hrl] at hany;have hs:=wR L i hi;have ez:((0:Nat):Int)=0:=rfl;have el:((jD L i).map af).length=L.length:=by simp[o5]
   have a1:((jD L i).map af)[i]'(by omega)=af L[i]:=by
    simp only[fJ,wS L i hi]
   simp only[K_,ED,hs,iE];simp only[KE,ED,ez] at hg;unfold pV;rw[hany];cases hq:dV (tJ (fun y:bq=>decide (y.name=L[i].name)) (qw (L.take i))) i with
   |none=>
    simp only[hq,JS,ED] at hg;have e11:((jD L i).map af).set i (af L[i])=(jD L i).map af:=by
     rw[←a1,List.set_getElem_self]
    simp only[Option.isSome_none,aB,if_false];rw[e11];clear a1;generalize (jD L i).map af=rr at*;simp (maxSteps:=9^9) [aW.l3,hi,hg,e5]
   |some q=>
    simp only[hq,JS] at hg;simp only[Option.isSome_some,if_true];clear a1;generalize ((jD L i).map af).set i (af {L[i] with name:=k_ L[i].name L[i].gid})=r2 at*
    generalize (jD L i).map af=rr at*;simp (maxSteps:=9^9) [aW.l3,hi,hg,e5])
  (fun x=>by
   simp only[K_,L2,ED];generalize (jD L L.length).map af=rr at*;simp (maxSteps:=9^9) [aW.l3])
 exact⟨_,gz (hr x) (by omega)⟩
theorem wH(a b:List bq)(G:List Int):∀(gs:List Int) (out:List bq),gs.foldl (yx a b G) out=out++(gs.filter fun g=> !decide (g∈G)).map (mn a b)
 |[],out=>by simp
 |g::gs,out=>by
  rw[eN,wH a b G gs,iI];unfold yx;by_cases c:g∈G
  ·simp[c]
  ·simp[c]
def lI(a b:List bq)(G:List Int):List bq:=qw (((aQ (fz a) (fz b)).filter fun g=> !decide (g∈G)).map (mn a b))
theorem AK{a b:List bq}(ha:mr a)(hb:mr b)(g:Int):(mn a b g).name.length≤12∧(mn a b g).gid≤9999:=by
 have hg:∀{c:bq},Good c→c.name.length≤12∧c.gid≤9999:=fun {c} hc=>⟨(nK hc.name).2,hc.gid.2⟩
 unfold mn;cases hp:kY a g with
 |some x=>
  have h1:=hg (ha.mh _ (lJ hp).1);cases hq:kY b g with
  |some y=>
   have h2:=hg (hb.mh _ (lJ hq).1);simp only[oE];rcases qP x y with q|q<;>rw[q]
   ·exact h1
   ·exact⟨h2.1,h1.2⟩
  |none=>exact h1
 |none=>
  cases hq:kY b g with
  |some y=>exact hg (hb.mh _ (lJ hq).1)
  |none=>simp
theorem aW.ak(h:aW.k M)(a b:List bq)(G:List Int)(ha:mr a)(hb:mr b)(hG:G.length≤4194304):
  run M 466 [.c (boxes a),.c (boxes b),.c (ints G)] []=some (.c (.sl true 7 ((lI a b G).map af)),[]):=by
 obtain⟨h0,kin,kput,kcopy,kjoin,kat,kname⟩:=h;have K:Nk M:=⟨kin,kcopy,kjoin,kat⟩;have hla:=ha.len;have hlb:=hb.len;refine au (b:=aW.m) h0 ⟨21, ?_⟩;have hgl:(fz a).length=a.length:=by simp[fz]
 have hgl2:(fz b).length=b.length:=by simp[fz]
 obtain⟨⟨v1,n1⟩,r1⟩:=HK kin kput 21 a b G hla (by omega) (2000016,2000064);have hs1:(a.foldl (fun s m=>kz s m.gid) []).length≤5:=by
  have:=uL a (fun s m=>kz s m.gid) (fun i s=>s.length≤i) (fun i h s hs=>by have:=su s a[i].gid;omega) [] (by simp);omega
 obtain⟨⟨v2,n2⟩,r2⟩:=HJ kin kput 21 a b G hlb (by omega) (a.foldl (fun s m=>kz s m.gid) []) hs1 (v1,n1+16);have hj:b.foldl (fun s m=>kz s m.gid) (a.foldl (fun s m=>kz s m.gid) [])=aQ (fz a) (fz b):=by
  rw[xq,xq,aQ,List.foldl_append]
 rw[hj] at r2;have hgs:(aQ (fz a) (fz b)).length≤10:=by
  have:=kF (fz a) (fz b);omega
 have hmem:∀g∈aQ (fz a) (fz b),g∈fz a∨g∈fz b:=fun g hg=>(iQ _ _ _).1 hg
 unfold lI;have hnm:∀x∈((aQ (fz a) (fz b)).filter fun g=> !decide (g∈G)).map (mn a b),x.name.length≤1048576∧x.gid≤9223372036854775807:=fun x hx=>by
  obtain⟨g,_,rfl⟩:=List.mem_map.1 hx;have:=AK ha hb g;omega
 have hfl:=bG (fun g=> !decide (g∈G)) (aQ (fz a) (fz b));have eL:=wH a b G (aQ (fz a) (fz b)) [];rw[List.nil_append] at eL;have hLl:(((aQ (fz a) (fz b)).filter fun g=> !decide (g∈G)).map (mn a b)).length≤10:=by simp;omega
 obtain⟨g3,hr3⟩:=jB (f:=cz (run M) 21 aW.l2) (aQ (fz a) (fz b)) (yx a b G) (fun i s=>s.length≤i) (G3 a b G (aQ (fz a) (fz b)) v2) 4 (L3 a b G (aQ (fz a) (fz b)) v2)
  (fun i h s hs=>by unfold yx;split<;>(try simp)<;>omega)
  (fun i hi s x hs=>HI K 21 a b ha hb G (aQ (fz a) (fz b)) hG (by omega) hmem v2 i hi s hs x)
  (fun s x hs=>JT 21 a b G (aQ (fz a) (fz b)) v2 s x) [] (by simp)
 have r3:=gz (hr3 (n2+0,n2+48)) (show (aQ (fz a) (fz b)).length+1≤21 by omega);rw[eL] at r3;generalize g3 (n2+0,n2+48)=y at*;obtain⟨v3,n3⟩:=y;generalize ((aQ (fz a) (fz b)).filter fun g=> !decide (g∈G)).map (mn a b)=L at*;obtain⟨n4,r4⟩:=HG kname v3 L (by omega) hnm 21 (by omega) (n3+16);have el:((qw L).map af).length=L.length:=by simp[lB]
 have eg:=aS (aQ (fz a) (fz b));have eg1:=aS (a.foldl (fun s m=>kz s m.gid) []);have ez:((0:Nat):Int)=0:=rfl;simp only[KG,L5,ez,pq,dy] at r1;simp only[KF,L4,ez] at r2;simp only[G3,L3,ez,bS,dy,Nat.add_zero] at r3;simp only[K_,L2,ED,wQ,yF,ez] at r4;clear hnm eL hj hmem hr3;generalize (qw L).map af=R4 at*;generalize L.map af=R3 at*;generalize L.length=N at*;generalize (aQ (fz a) (fz b))=gj at*;generalize (a.foldl (fun s m=>kz s m.gid) [])=ga at*;simp only[boxes,ints] at*;generalize aA gj=rgj at*;generalize aA ga=rga at*;generalize a.map af=ra at*;generalize b.map af=rb at*;generalize aA G=rg at*;simp (maxSteps:=9^9) [ba,aW.m,aW.b,aa,r1,r2,r3,r4,el,ab]
def ku(L:List bq)(i:Nat):List Int:=(L.take i).flatMap fun b=>fk b.ae
def nY(L:List bq)(i:Nat)(x:bq):bq:={x with ae:=x.ae.filter fun m=> !decide (m.gid∈ku L i)}
def jF(L:List bq)(k:Nat):List bq:=L.mapIdx fun i x=>if i<k then nY L i x else x
def vX(L:List bq):List bq:=L.mapIdx fun i x=>nY L i x
theorem xH(L:List bq):jF L 0=L:=by unfold jF;simp[List.mapIdx_eq_iff]
theorem yX(L:List bq):jF L L.length=vX L:=by
 unfold jF vX;apply List.ext_getElem
 ·simp
 ·intro i h1 h2;simp at h1 ⊢;intro h;omega
theorem sw(L:List bq)(k:Nat):(jF L k).length=L.length:=by simp[jF]
theorem xJ(L:List bq)(k:Nat)(h:k<L.length):(jF L k)[k]'(by rw[sw];exact h)=L[k]:=by simp[jF]
theorem xI(L:List bq)(k:Nat)(h:k<L.length):jF L (k+1)=(jF L k).set k (nY L k L[k]):=by
 unfold jF;apply List.ext_getElem
 ·simp
 ·intro i h1 h2;simp only[List.getElem_mapIdx,List.getElem_set];by_cases c:k=i
  ·subst c;simp
  ·rw[if_neg c];by_cases c2:i<k
   ·rw[if_pos c2,if_pos (by omega)]
   ·rw[if_neg c2,if_neg (by omega)]
theorem ta(L:List bq)(i:Nat)(h:i<L.length):ku L (i+1)=ku L i++fk L[i].ae:=by
 simp only[ku,hH L i h,List.flatMap_append,cj,List.flatMap_nil,cR]
structure x8 where
 u4:Nat
 u6:Nat
 w:Nat
 z:Nat
 eJ:Int
 time:Int
 gone:List Int
 L:List bq
def C6(c:x8):List T:=[I c.eJ,I c.time,.row 13300 c.w 0 c.L.length,.row 11900 c.z 0 c.gone.length]
abbrev oL:List T:=[I 0,I 0,.aL 7,.aL 1]
structure Mn where
 i:Nat
 v:Nat
 n:Nat
def DY(c:x8)(i:Nat)(x:bq)(seen:List Int)(u9 v:Nat)(j:Nat)(left:List bj)(y:Nat×Nat):St:={t:=[(4,.c (.ptr 4 c.u4 0 0)),(6,.c (.ptr 6 c.u6 0 0)),(7,.c (.row 35 v 0 seen.length)),(8,.c (I i)),(9,.c (.ptr 9 u9 0 0)),(10,.c (.row 44 y.1 0 left.length)),(37,.c (.row 13300 c.w 0 c.L.length)),(38,.c (I c.L.length)),(39,.c (I i)),(46,.c (ae x.ae)),(47,.c (I x.ae.length)),(48,.c (I j))],o:=[(4,⟨c.u4,4,true,true,[oL]⟩),(6,⟨c.u6,4,true,true,[C6 c]⟩),(9,⟨u9,7,true,true,[af x]⟩),(35,⟨v,1,true,false,aA seen⟩),(44,⟨y.1,4,true,false,left.map ah⟩),(11900,⟨c.z,1,false,false,aA c.gone⟩),(13300,⟨c.w,7,true,false,(jF c.L i).map af⟩)],n:=y.2}
def HT(c:x8)(i:Nat)(x:bq)(seen:List Int)(u9 v:Nat)(left:List bj)(y:Nat×Nat):St:={t:=[(4,.c (.ptr 4 c.u4 0 0)),(6,.c (.ptr 6 c.u6 0 0)),(7,.c (.row 35 v 0 seen.length)),(8,.c (I i)),(9,.c (.ptr 9 u9 0 0)),(10,.c (.row 44 y.1 0 left.length)),(37,.c (.row 13300 c.w 0 c.L.length)),(38,.c (I c.L.length)),(39,.c (I i)),(46,.c (ae x.ae)),(47,.c (I x.ae.length)),(48,.c (I x.ae.length)),(49,.c (.bool false))],o:=[(4,⟨c.u4,4,true,true,[oL]⟩),(6,⟨c.u6,4,true,true,[C6 c]⟩),(9,⟨u9,7,true,true,[af x]⟩),(35,⟨v,1,true,false,aA seen⟩),(44,⟨y.1,4,true,false,left.map ah⟩),(11900,⟨c.z,1,false,false,aA c.gone⟩),(13300,⟨c.w,7,true,false,(jF c.L i).map af⟩)],n:=y.2}
theorem FJ(kc:aI.k M)(k:Nat)(c:x8)(i:Nat)(x:bq)(seen:List Int)(hseen:seen.length≤4194304)(u9 v:Nat)(hx:x.ae.length≤1048576)(hk:x.ae.length<k)(y:Nat×Nat):
  ∃z,fx (cz (run M) k bz.l1) k (DY c i x seen u9 v 0 [] y)=some (.exit 2,HT c i x seen u9 v (x.ae.filter fun m=> !decide (m.gid∈seen)) z):=by
 obtain⟨g,hr⟩:=jB (f:=cz (run M) k bz.l1) x.ae (fun s m=>if(!decide (m.gid∈seen))=true then s++[m] else s) (fun i s=>s.length≤i) (DY c i x seen u9 v) 2 (HT c i x seen u9 v)
  (fun i h s hs=>by split<;>(try simp)<;>omega)
  (fun j hj s y hs=>by
   obtain⟨v4,n⟩:=y;have e5:=cA (i:=j) (by omega);have e6:s.length+1≤4294967296:=by omega
   have e9:(s.map ah).length=s.length:=by simp
   have er:(x.ae.map ah).length=x.ae.length:=by simp
   have h1:=aI.ak kc seen x.ae[j].gid (by omega);have eg:=aS seen;have a1:∀hh,(x.ae.map ah)[j]'hh=ah x.ae[j]:=by intro hh;simp
   simp only[aE];by_cases q:x.ae[j].gid∈seen
   ·rw[decide_eq_true q] at h1;simp only[q,decide_true,Bool.not_true,aB,if_false,DY,C6];simp only[af,ae,ints,ah,jf] at a1 h1 ⊢;generalize x.ae.map ah=rx at*;generalize aA seen=rs at*;generalize (jF c.L i).map af=rd at*;generalize s.map ah=rl at*;generalize x.ae[j].flags.map aO=rf at*;simp (maxSteps:=9^9) [bz.l1,setAt,hj,h1,e5,er,eg,a1,ab]
   ·rw[decide_eq_false q] at h1;simp only[q,decide_false,Bool.not_false,if_true,DY,C6,cg,bu,bS,aD,bM];simp only[af,ae,ints,ah,jf] at a1 h1 ⊢;generalize x.ae.map ah=rx at*;generalize aA seen=rs at*;generalize (jF c.L i).map af=rd at*;generalize s.map ah=rl at*;generalize x.ae[j].flags.map aO=rf at*;simp (maxSteps:=9^9) [bz.l1,setAt,hj,h1,e5,e6,e9,er,eg,a1,ab])
  (fun s y hs=>by
   obtain⟨v4,n⟩:=y;have er:(x.ae.map ah).length=x.ae.length:=by simp
   simp only[aE,DY,HT,C6,ae];generalize x.ae.map ah=rx at*;generalize aA seen=rs at*;generalize (jF c.L i).map af=rd at*;generalize s.map ah=rl at*;simp (maxSteps:=9^9) [bz.l1]) [] (by simp)
 rw[qJ] at hr;exact⟨_,gz (hr y) (by omega)⟩
def FI(c:x8)(i:Nat)(xm:List bj)(left:List bj)(v4:Nat)(j:Nat)(seen:List Int)(y:Nat×Nat):St:={t:=[(4,.c (.ptr 4 c.u4 0 0)),(6,.c (.ptr 6 c.u6 0 0)),(7,.c (.row 35 y.1 0 seen.length)),(8,.c (I i)),(10,.c (.row 44 v4 0 left.length)),(37,.c (.row 13300 c.w 0 c.L.length)),(38,.c (I c.L.length)),(39,.c (I i)),(63,.c (ae xm)),(64,.c (I xm.length)),(65,.c (I j))],o:=[(4,⟨c.u4,4,true,true,[oL]⟩),(6,⟨c.u6,4,true,true,[C6 c]⟩),(35,⟨y.1,1,true,false,aA seen⟩),(44,⟨v4,4,true,false,left.map ah⟩),(11900,⟨c.z,1,false,false,aA c.gone⟩),(13300,⟨c.w,7,true,false,(jF c.L i).map af⟩)],n:=y.2}
def HS(c:x8)(i:Nat)(xm:List bj)(left:List bj)(v4:Nat)(seen:List Int)(y:Nat×Nat):St:={t:=[(4,.c (.ptr 4 c.u4 0 0)),(6,.c (.ptr 6 c.u6 0 0)),(7,.c (.row 35 y.1 0 seen.length)),(8,.c (I i)),(10,.c (.row 44 v4 0 left.length)),(37,.c (.row 13300 c.w 0 c.L.length)),(38,.c (I c.L.length)),(39,.c (I i)),(63,.c (ae xm)),(64,.c (I xm.length)),(65,.c (I xm.length)),(66,.c (.bool false))],o:=[(4,⟨c.u4,4,true,true,[oL]⟩),(6,⟨c.u6,4,true,true,[C6 c]⟩),(35,⟨y.1,1,true,false,aA seen⟩),(44,⟨v4,4,true,false,left.map ah⟩),(11900,⟨c.z,1,false,false,aA c.gone⟩),(13300,⟨c.w,7,true,false,(jF c.L i).map af⟩)],n:=y.2}
theorem DL(l:List bj)(s:List Int):l.foldl (fun s m=>s++[m.gid]) s=s++fk l:=by
 induction l generalizing s with
 |nil=>simp[fk]
 |cons a l ih=>rw[eN,ih];simp[fk]
theorem FH(k:Nat)(c:x8)(i:Nat)(xm left:List bj)(v4:Nat)(seen:List Int)(hseen:seen.length≤4194304)(hx:xm.length≤1048576)(hk:xm.length<k)(y:Nat×Nat):
  ∃z,fx (cz (run M) k bz.l2) k (FI c i xm left v4 0 seen y)=some (.exit 4,HS c i xm left v4 (seen++fk xm) z):=by
 obtain⟨g,hr⟩:=jB (f:=cz (run M) k bz.l2) xm (fun s m=>s++[m.gid]) (fun i s=>s.length≤4194304+i) (FI c i xm left v4) 4 (HS c i xm left v4)
  (fun i h s hs=>by simp;omega)
  (fun j hj s y hs=>by
   obtain⟨v,n⟩:=y;have e5:=cA (i:=j) (by omega);have e6:s.length+1≤4294967296:=by omega
   have e9:=aS s;have er:(xm.map ah).length=xm.length:=by simp
   have a1:∀hh,(xm.map ah)[j]'hh=ah xm[j]:=by intro hh;simp
   simp only[aE,FI,C6,o_,aD,bM];simp only[ae,ah,jf] at a1 ⊢;generalize xm.map ah=rx at*;generalize aA s=rs at*;generalize (jF c.L i).map af=rd at*;generalize left.map ah=rl at*;generalize xm[j].flags.map aO=rf at*;simp (maxSteps:=9^9) [bz.l2,setAt,hj,e5,e6,e9,er,a1,ab])
  (fun s y hs=>by
   obtain⟨v,n⟩:=y;have er:(xm.map ah).length=xm.length:=by simp
   simp only[aE,FI,HS,C6,ae];generalize xm.map ah=rx at*;generalize aA s=rs at*;generalize (jF c.L i).map af=rd at*;generalize left.map ah=rl at*;simp (maxSteps:=9^9) [bz.l2]) seen (by omega)
 rw[DL] at hr;exact⟨_,gz (hr y) (by omega)⟩
def AH(c:x8)(s:Mn):St:={t:=[(4,.c (.ptr 4 c.u4 0 0)),(6,.c (.ptr 6 c.u6 0 0)),(7,.c (.row 35 s.v 0 (ku c.L s.i).length)),(37,.c (.row 13300 c.w 0 c.L.length)),(38,.c (I c.L.length)),(39,.c (I s.i))],o:=[(4,⟨c.u4,4,true,true,[oL]⟩),(6,⟨c.u6,4,true,true,[C6 c]⟩),(35,⟨s.v,1,true,false,aA (ku c.L s.i)⟩),(11900,⟨c.z,1,false,false,aA c.gone⟩),(13300,⟨c.w,7,true,false,(jF c.L s.i).map af⟩)],n:=s.n}
def FM(c:x8)(s:Mn):St:={t:=[(4,.c (.ptr 4 c.u4 0 0)),(6,.c (.ptr 6 c.u6 0 0)),(7,.c (.row 35 s.v 0 (ku c.L s.i).length)),(37,.c (.row 13300 c.w 0 c.L.length)),(38,.c (I c.L.length)),(39,.c (I s.i)),(40,.c (.bool false))],o:=[(4,⟨c.u4,4,true,true,[oL]⟩),(6,⟨c.u6,4,true,true,[C6 c]⟩),(35,⟨s.v,1,true,false,aA (ku c.L s.i)⟩),(11900,⟨c.z,1,false,false,aA c.gone⟩),(13300,⟨c.w,7,true,false,(jF c.L s.i).map af⟩)],n:=s.n}
theorem yD(L:List bq)(h:∀b∈L,b.ae.length≤100):∀i,(ku L i).length≤100*i
 |0=>by simp[ku]
 |i+1=>by
  have ih:=yD L h i;by_cases c:i<L.length
  ·rw[ta L i c];have:=h _ (ax c);simp only[aD,fk,eM];omega
  ·have:ku L (i+1)=ku L i:=by
    simp only[ku];rw[ab (by omega),ab (by omega)]
   rw[this];omega
theorem FK(kc:aI.k M)(k:Nat)(hk:200≤k)(c:x8)(hL:c.L.length≤1000)(hb:∀b∈c.L,b.ae.length≤100)(s:Mn)(hs:s.i<c.L.length):
  ∃v' n',cz (run M) k bz.l0 (AH c s)=some (.normal,AH c ⟨s.i+1,v',n'⟩):=by
 obtain⟨i,v,n⟩:=s;simp only at hs;have hx:=hb _ (ax hs);have hsl:=yD c.L hb i;obtain⟨⟨v4,n4⟩,r1⟩:=FJ kc k c i c.L[i] (ku c.L i) (by omega) (n+64) v (by omega) (by omega) (n+112,n+208);obtain⟨⟨v5,n5⟩,r2⟩:=FH (M:=M) k c i c.L[i].ae (c.L[i].ae.filter fun m=> !decide (m.gid∈ku c.L i)) v4 (ku c.L i) (by omega) (by omega) (by omega) (v,n4+64);rw[←ta c.L i hs] at r2;have e5:=cA (i:=i) (by omega);have ez:((0:Nat):Int)=0:=rfl;have el:((jF c.L i).map af).length=c.L.length:=by simp[sw]
 have a1:∀hh,((jF c.L i).map af)[i]'hh=af c.L[i]:=by
  intro hh;simp only[fJ,xJ c.L i hs]
 have t3:(jF c.L (i+1)).map af=((jF c.L i).map af).set i (af (nY c.L i c.L[i])):=by rw[xI c.L i hs,iE]
 have efl:((c.L[i].ae.filter fun m=> !decide (m.gid∈ku c.L i)).map ah).length=(c.L[i].ae.filter fun m=> !decide (m.gid∈ku c.L i)).length:=by simp
 have er:(c.L[i].ae.map ah).length=c.L[i].ae.length:=by simp
 simp only[DY,HT,ez,bS,dy] at r1;simp only[FI,HS,ez] at r2;simp only[AH,t3];clear t3;simp only[nY,af,ae,ints,C6] at r1 r2 a1 ⊢;generalize (c.L[i].ae.filter fun m=> !decide (m.gid∈ku c.L i)).map ah=rl at*;generalize (c.L[i].ae.filter fun m=> !decide (m.gid∈ku c.L i)).length=nl at*;generalize aA (ku c.L (i+1))=rs1 at*;generalize (ku c.L (i+1)).length=ns1 at*;generalize aA (ku c.L i)=rs at*;generalize (ku c.L i).length=ns at*;generalize (jF c.L i).map af=rd at*;generalize c.L[i]=x at*;generalize c.L.length=N at*;generalize x.ae.map ah=rx at*;generalize aA x.gone=rg at*;generalize aA c.gone=rcg at*;simp (maxSteps:=9^9) [bz.l0,setAt,hs,r1,r2,e5,el,a1,efl,er,ab]
theorem HU(k:Nat)(c:x8)(s:Mn)(hs:¬s.i<c.L.length):
  ∃n',cz (run M) k bz.l0 (AH c s)=some (.exit 0,FM c ⟨s.i,s.v,n'⟩):=by
 obtain⟨i,v,n⟩:=s;simp only at hs;simp only[AH,FM,C6];generalize (jF c.L i).map af=rd at*;simp (maxSteps:=9^9) [bz.l0,hs]
def dm(a b:a7):a7:={eJ:=a.eJ,time:=Max.max a.time b.time,boxes:=vX (lj a.boxes b.boxes (aQ a.gone b.gone)),gone:=aQ a.gone b.gone}
theorem FL(kc:aI.k M)(k:Nat)(hk:1200≤k)(c:x8)(hL:c.L.length≤1000)(hb:∀b∈c.L,b.ae.length≤100)(v n:Nat):
  ∃v' n',fx (cz (run M) k bz.l0) k (AH c ⟨0,v,n⟩)=some (.exit 0,FM c ⟨c.L.length,v',n'⟩):=by
 obtain⟨r,hr,⟨⟨i,v',n'⟩,rfl,hi⟩⟩:=lN (f:=cz (run M) k bz.l0) (AH c) (fun s=>s.i≤c.L.length) (fun s=>c.L.length-s.i) (fun r=>∃s',r=(.exit 0,FM c s')∧s'.i=c.L.length)
  (fun s hs=>by
   by_cases q:s.i<c.L.length
   ·left;obtain⟨v',n',hh⟩:=FK kc k (by omega) c hL hb s q;exact⟨_,hh,by simp only;omega,by simp only;omega⟩
   ·right;obtain⟨n',hh⟩:=HU (M:=M) k c s q;exact⟨_,hh,by simp,_,rfl,by simp only;omega⟩) k ⟨0,v,n⟩ (by simp) (by simp only;omega)
 simp only at hi;subst hi;exact⟨v',n',hr⟩
theorem CW:∀(l acc:List bq) (x:bq),x∈l.foldl oT acc→x∈acc∨∃y∈l,x.gid=y.gid∧x.ae=y.ae∧x.gone=y.gone∧(x.name=y.name∨x.name=k_ y.name y.gid)
 |[],acc,x,h=> .inl h
 |y::l,acc,x,h=>by
  rw[eN] at h;rcases CW l _ x h with q|⟨z,hz,q⟩
  ·rw[qG] at q;rcases List.mem_append.1 q with q|q
   ·exact .inl q
   ·simp only[iV] at q;subst q;right;refine⟨y,bl .., ?_⟩;unfold pV;split
    ·exact⟨rfl,rfl,rfl,.inr rfl⟩
    ·exact⟨rfl,rfl,rfl,.inl rfl⟩
  ·exact .inr ⟨z,bo _ hz,q⟩
theorem yd(s:List UInt8)(g:Int):(k_ s g).length≤12:=by
 unfold k_;split
 ·simp;omega
 ·simp;omega
structure Small (x:bq):Prop where
 m:x.ae.length≤20
 g:x.gone.length≤80
 n:x.name.length≤12
 f:∀m∈x.ae,m.flags.length≤1048576
 d:(fk x.ae).Nodup
theorem Good.small{b:bq}(h:Good b):Small b:=⟨by have:=h.len;omega,by have:=h.oN;omega,(nK h.name).2,h.vz.f,h.nd⟩
theorem yg{a b:bq}(ha:Good a)(hb:Good b):Small (gY a b):=by
 have H:=ha.AI hb;have J:=Bi ha hb;refine⟨?_, ?_, ?_,(td H).f,J.na⟩
 ·have:=J.all;rw[zb] at this;exact this
 ·unfold gY;split
  ·have:=kF a.gone b.gone;have:=ha.oN;have:=hb.oN;simp only;omega
  ·have:=ha.oN;omega
 ·rcases qP a b with q|q<;>rw[q]
  ·exact(nK ha.name).2
  ·exact(nK hb.name).2
theorem CB{a b:List bq}(ha:mr a)(hb:mr b)(x:bq)(h:x∈oG a b):Small x:=by
 rcases Bg x h with q|q|⟨y,hy,z,hz,_,rfl⟩
 ·exact(ha.mh x q).small
 ·exact(hb.mh x q).small
 ·exact yg (ha.mh y hy) (hb.mh z hz)
theorem lU{a b:List bq}(ha:mr a)(hb:mr b)(G:List Int)(x:bq)(h:x∈lj a b G):Small x:=by
 rcases CW _ _ x h with q|⟨y,hy,q1,q2,q3,q4⟩
 ·simp at q
 ·have S:=CB ha hb y (List.mem_filter.1 (qC.1 hy)).1;refine⟨by rw[q2];exact S.m,by rw[q3];exact S.g, ?_,by rw[q2];exact S.f,by rw[q2];exact S.d⟩;rcases q4 with q|q<;>rw[q]
  ·exact S.n
  ·exact yd _ _
theorem po{a b:List bq}(ha:mr a)(hb:mr b)(G:List Int):(lj a b G).length≤10:=by
 unfold lj;rw[lB,iK];have h1:=bG (fun x:bq=> !decide (x.gid∈G)) (oG a b);have h2:=Bh a b;have:=ha.len;have:=hb.len;omega
theorem Gh(L:List bq)(h:∀x∈L,Small x):∀x∈vX L,iw x:=by
 intro x hx;obtain⟨i,hi,rfl⟩:=bQ hx;simp only[vX,List.length_mapIdx] at hi;simp only[vX,List.getElem_mapIdx,nY];have S:=h _ (ax hi);have hl:=bG (fun m:bj=> !decide (m.gid∈ku L i)) L[i].ae;refine⟨by have:=S.m;simp only;omega,by have:=S.g;simp only;omega,by have:=S.n;simp only;omega,fun m hm=>S.f m (List.mem_filter.1 hm).1⟩
structure mz (s:a7):Prop where
 boxes:mr s.boxes
 gone:s.gone.length≤20
 Jq:s.boxes.Pairwise fun x y=>x.gid<y.gid
theorem ev{s:a7}(h:a8 s=true):mz s:=by
 simp only[a8,aj,decide_eq_true_eq,ch,jE] at h;obtain⟨⟨⟨⟨_,_⟩,h3⟩,h4⟩,h5⟩:=h;have hg:=(px.1 h4).2.2;have hbad:∀i (hi:i<s.boxes.length),fA s.boxes[i]=true∧∀(q:0<i),(s.boxes[i-1]'(by omega)).gid<s.boxes[i].gid:=fun i hi=>by
  have:=h5 i hi;rw[n8 hi,ov hi] at this;simp at this;exact⟨this.1.1.1.1.1,this.1.1.1.1.2⟩
 refine⟨⟨h3,fun b hb=> ?_⟩,by omega, ?_⟩
 ·obtain⟨i,hi,rfl⟩:=bQ hb;exact qq.1 (hbad i hi).1
 ·have hA:ym (s.boxes.map (·.gid)):=wG fun j hj=>by
   simp only[eM] at hj;have:=(hbad (j+1) hj).2 (by omega);simpa using this
  exact List.pairwise_map.1 hA
theorem bz.ak(h:bz.k M)(a b:a7)(ha:mz a)(hb:mz b):
  run M 447 [.a (aq a),.a (aq b)] []=some (.a [I a.eJ,I (Max.max a.time b.time),.sl true 7 ((dm a b).boxes.map af),.sl false 1 (aA (dm a b).gone)],[]):=by
 obtain⟨h0,kg,kc,kb⟩:=h;have hga:=ha.gone;have hgb:=hb.gone;have hgj:=kF a.gone b.gone;have h1:=fv.ak kg a.gone b.gone (by omega) (by omega);have h2:=bp.ak kb a.boxes b.boxes (aQ a.gone b.gone) ha.boxes hb.boxes (by omega);have hLl:=po ha.boxes hb.boxes (aQ a.gone b.gone);have hLs:=lU ha.boxes hb.boxes (aQ a.gone b.gone);simp only[dm];have eg:=aS (aQ a.gone b.gone);generalize aQ a.gone b.gone=G at*;generalize lj a.boxes b.boxes G=L at*;obtain⟨v1,n1,r1⟩:=FL kc 1200 (by omega) ⟨2000032,2000384,2000352,2000112,a.eJ,Max.max a.time b.time,G,L⟩ (by simp only;omega) (fun x hx=>by have:=(hLs x hx).m;omega) 2000416 2000512;refine au (b:=bz.m) h0 ⟨1200, ?_⟩;have el:(L.map af).length=L.length:=by simp
 have el2:((vX L).map af).length=L.length:=by simp[vX]
 have ez:((0:Nat):Int)=0:=rfl;have es:ku L 0=[]:=by simp[ku]
 have em:=zx a.time b.time;simp only[AH,FM,C6,xH,yX,ez,es,pq,dy] at r1;generalize hmx:Max.max a.time b.time=mx at*;clear hmx hLs;generalize (vX L).map af=RD at*;generalize L.map af=RL at*;generalize L.length=N at*;generalize aA (ku L N)=rs at*;simp only[aq,boxes,ints] at*;generalize aA G=rg at*;generalize G.length=ng at*;generalize a.boxes.map af=ra at*;generalize b.boxes.map af=rb at*;generalize aA a.gone=ga at*;generalize aA b.gone=gb at*;by_cases c:a.time<b.time
 ·rw[if_pos c] at em;subst em;simp (maxSteps:=9^9) [ba,bz.m,bz.b,aa,setAt,h1,h2,r1,c,el,el2,eg,ab]
 ·rw[if_neg c] at em;subst em;simp (maxSteps:=9^9) [ba,bz.m,bz.b,aa,setAt,h1,h2,r1,c,el,el2,eg,ab]
def KD(s:a7)(g:Int)(i:Nat)(x:Nat):St:={t:=[(1,.c (I g)),(2,.c (.ptr 2 2000000 0 0)),(5,.c (I i))],o:=[(2,⟨2000000,4,true,true,[aq s]⟩)],n:=x}
theorem dk.ak(h:dk.k M)(s:a7)(g:Int)(hl:s.boxes.length≤1048576):run M 196 [.a (aq s),.c (I g)] []=some (.c (I (dA (mI s.boxes g))),[]):=by
 refine au (b:=dk.m) h ⟨s.boxes.length+1, ?_⟩;have er:(s.boxes.map af).length=s.boxes.length:=by simp
 obtain⟨g',hr⟩:=mU (f:=cz (run M) (s.boxes.length+1) dk.l0) s.boxes.length (tJ (fun b:bq=>decide (b.gid=g)) s.boxes) (KD s g) j6 pE
  (fun i hi x c=>by
   rw[jY _ _ _ hi] at c;simp only[decide_eq_false_iff_not] at c;have e5:=cA (i:=i) (by omega);have a1:∀hh,(s.boxes.map af)[i]'hh=af s.boxes[i]:=by intro hh;simp
   simp only[KD,aq,boxes,ints];simp only[af] at a1;generalize s.boxes.map af=rb at*;simp (maxSteps:=9^9) [dk.l0,hi,c,e5,er,a1])
  (fun i hi x c=>by
   rw[jY _ _ _ hi] at c;simp only[decide_eq_true_eq] at c;have a1:∀hh,(s.boxes.map af)[i]'hh=af s.boxes[i]:=by intro hh;simp
   simp only[KD,aq,boxes,ints];simp only[af] at a1;generalize s.boxes.map af=rb at*;simp (maxSteps:=9^9) [dk.l0,hi,c,er,a1,j6];exact⟨⟨[],[],_⟩,rfl⟩)
  (fun x=>by
   simp only[KD,aq,boxes,ints];generalize s.boxes.map af=rb at*;simp (maxSteps:=9^9) [dk.l0,er,j6])
 unfold mI;cases hm:dV (tJ (fun b:bq=>decide (b.gid=g)) s.boxes) s.boxes.length with
 |none=>
  simp[KD,hm,j6] at hr;simp only[aq,boxes,ints] at*;simp (maxSteps:=9^9) [ba,dk.m,dk.b,aa,hr,dA]
 |some k=>
  simp[KD,hm,j6] at hr;simp only[aq,boxes,ints] at*;simp (maxSteps:=9^9) [ba,dk.m,dk.b,aa,hr,dA]
theorem dH.ak(h:dH.k M)(s:a7)(hs: -1000000000≤s.time∧s.time≤1000000000):run M 301 [.a (aq s)] []=some (.a [I (s.time+1),I s.eJ],[]):=by
 refine au (b:=dH.m) h ⟨0, ?_⟩;have e5:IntKind.i64.wrap (s.time+1)=s.time+1:=wrap_i64 (by omega) (by omega);simp only[aq,boxes,ints];simp (maxSteps:=9^9) [ba,dH.m,dH.b,aa,setAt,e5]
def K9(s:a7)(i v:Nat):List (Nat×Ob):=[(1,⟨2000000,4,true,true,[aq s]⟩),(2,⟨2000016,4,true,true,[oL]⟩),(3,⟨2000048,4,true,true,[[I s.eJ,I s.time,.row 6 v 0 i,ints s.gone]]⟩),(6,⟨v,7,true,false,(s.boxes.take i).map af⟩)]
def L0(s:a7)(i:Nat)(x:Nat×Nat):St:={t:=[(1,.c (.ptr 1 2000000 0 0)),(2,.c (.ptr 2 2000016 0 0)),(3,.c (.ptr 3 2000048 0 0)),(4,.c (I i))],o:=K9 s i x.1,n:=x.2}
def MI(s:a7)(x:Nat×Nat):St:={t:=[(1,.c (.ptr 1 2000000 0 0)),(2,.c (.ptr 2 2000016 0 0)),(3,.c (.ptr 3 2000048 0 0)),(4,.c (I s.boxes.length)),(12,.c (.bool false))],o:=K9 s s.boxes.length x.1,n:=x.2}
theorem b5.ak(h:b5.k M)(s:a7)(hs:gr s):run M 219 [.a (aq s)] []=some (.a (a_ s),[]):=by
 obtain⟨h0,k1⟩:=h;have hbl:=hs.b;have hgl:=hs.g;refine au (b:=b5.m) h0 ⟨s.boxes.length+1, ?_⟩;have er:(s.boxes.map af).length=s.boxes.length:=by simp
 obtain⟨g,hr⟩:=kq (f:=cz (run M) (s.boxes.length+1) b5.l0) s.boxes.length (L0 s) 0 (MI s)
  (fun i hi x=>by
   obtain⟨v,n⟩:=x;have h2:=bX.ak k1 s.boxes[i] (hs.i _ (ax hi));have e5:=cA (i:=i) (by omega);have e6:i+1≤4294967296:=by omega
   have e7:((s.boxes.take i).map af).length=i:=by simp;omega
   have e8:((s.boxes.take (i+1)).map af)=(s.boxes.take i).map af++[af s.boxes[i]]:=by rw[hH _ _ hi,cg];rfl
   have a1:∀hh,(s.boxes.map af)[i]'hh=af s.boxes[i]:=by intro hh;simp
   simp only[aE,L0,K9,e8,aq,boxes,ints];simp only[af,b7,ae,ints] at h2 a1 ⊢;generalize (s.boxes.take i).map af=rr at*;generalize s.boxes.map af=rb at*;generalize s.boxes[i].ae.map ah=rm at*;generalize aA s.boxes[i].gone=rg at*;generalize aA s.gone=rs at*;simp (maxSteps:=9^9) [b5.l0,aa,setAt,hi,h2,e5,e6,e7,er,a1,ab])
  (fun x=>by
   obtain⟨v,n⟩:=x;simp only[aE,L0,MI,K9,aq,boxes,ints];generalize (s.boxes.take s.boxes.length).map af=rr at*;generalize s.boxes.map af=rb at*;generalize aA s.gone=rs at*;simp (maxSteps:=9^9) [b5.l0,aa,er])
 have hr0:=hr (2000080,2000144);generalize g (2000080,2000144)=y at*;obtain⟨v,n⟩:=y;have ez:((0:Nat):Int)=0:=rfl;have eg:=aS s.gone;have e9:s.gone.length≤4294967296:=by omega
 simp only[L0,MI,K9,ez,List.take_zero,bS,List.take_length,aq,boxes,ints] at hr0;simp only[aq,a_,boxes,ints];generalize s.boxes.map af=rb at*;generalize aA s.gone=rs at*;simp (maxSteps:=9^9) [ba,b5.m,b5.b,aa,setAt,hr0,er,eg,e9,ab]
def oI(b:bq)(g:Int):Bool:=(fX b.ae g).isSome||decide (g∈b.gone)
def qe(s:a7)(g:Int):Bool:=(mI s.boxes g).isSome||decide (g∈s.gone)||s.boxes.any fun b=>oI b g
def KC(s:a7)(g:Int)(i:Nat)(x:Nat):St:={t:=[(1,.c (I g)),(2,.c (.ptr 2 2000000 0 0)),(5,.c (I i))],o:=[(2,⟨2000000,4,true,true,[aq s]⟩)],n:=x}
def MH(s:a7)(g:Int)(x:Nat):St:={t:=[(1,.c (I g)),(2,.c (.ptr 2 2000000 0 0)),(5,.c (I s.boxes.length)),(20,.c (.bool false))],o:=[(2,⟨2000000,4,true,true,[aq s]⟩)],n:=x}
theorem tn(p:bq→Bool)(l:List bq):l.any p=(dV (tJ p l) l.length).isSome:=by
 cases q:dV (tJ p l) l.length with
 |none=>
  have hn:=lZ q;have:l.any p=false:=by
   rw[List.any_eq_false];intro b hb;obtain⟨j,hj,rfl⟩:=bQ hb;have:=hn j hj;rw[jY _ _ _ hj] at this;simp[this]
  rw[this];rfl
 |some k=>
  obtain⟨h1,h2,_⟩:=lY q;rw[jY _ _ _ h1] at h2;have:l.any p=true:=List.any_eq_true.2 ⟨_,ax h1,h2⟩;rw[this];rfl
theorem lD(q:Option Nat):decide ((0:Int)≤dA q)=q.isSome:=by
 cases q with
 |none=>rfl
 |some k=>exact decide_eq_true (Int.natCast_nonneg k)
theorem eD.ak(h:eD.k M)(s:a7)(g:Int)(hs:gr s):run M 300 [.a (aq s),.c (I g)] []=some (.c (.bool (qe s g)),[]):=by
 obtain⟨h0,ka,ki,kb⟩:=h;have hbl:=hs.b;have hgl:=hs.g;have h1:=dk.ak kb s g hbl;have h2:=bf.ak ki s.gone g (by omega);refine au (b:=eD.m) h0 ⟨s.boxes.length+1, ?_⟩;have er:(s.boxes.map af).length=s.boxes.length:=by simp
 obtain⟨g',hr⟩:=iz (f:=cz (run M) (s.boxes.length+1) eD.l0) s.boxes.length (tJ (fun b=>oI b g) s.boxes) (KC s g) 4 (.bool true) 0 (MH s g)
  (fun i hi x c=>by
   rw[jY _ _ _ hi] at c;have hb:=hs.i _ (ax hi);have h3:=bI.ak ka s.boxes[i] g hb.m;have h4:=bf.ak ki s.boxes[i].gone g (by have:=hb.g;omega);have e5:=cA (i:=i) (by omega);have a1:∀hh,(s.boxes.map af)[i]'hh=af s.boxes[i]:=by intro hh;simp
   unfold oI at c;simp only[fT] at c;obtain⟨c1,c2⟩:=c;rw[c2] at h4;have c3:¬(0:Int)≤dA (fX s.boxes[i].ae g):=by
    have:=lD (fX s.boxes[i].ae g);rw[c1] at this;simpa using this
   simp only[KC,aq,boxes,ints];simp only[af,ae,ints] at h3 h4 a1;generalize dA (fX s.boxes[i].ae g)=z at*;generalize s.boxes.map af=rb at*;generalize s.boxes[i].ae.map ah=rm at*;generalize aA s.boxes[i].gone=rg at*;simp (maxSteps:=9^9) [eD.l0,hi,h3,h4,c3,e5,er,a1,ab])
  (fun i hi x c=>by
   rw[jY _ _ _ hi] at c;have hb:=hs.i _ (ax hi);have h3:=bI.ak ka s.boxes[i] g hb.m;have h4:=bf.ak ki s.boxes[i].gone g (by have:=hb.g;omega);have a1:∀hh,(s.boxes.map af)[i]'hh=af s.boxes[i]:=by intro hh;simp
   unfold oI at c;have c3:=lD (fX s.boxes[i].ae g);simp only[KC,aq,boxes,ints];simp only[af,ae,ints] at h3 h4 a1;generalize dA (fX s.boxes[i].ae g)=z at*;generalize (fX s.boxes[i].ae g).isSome=w at*;generalize decide (g∈s.boxes[i].gone)=w2 at*;generalize s.boxes.map af=rb at*;generalize s.boxes[i].ae.map ah=rm at*;generalize aA s.boxes[i].gone=rg at*;cases w
   ·simp only[decide_eq_false_iff_not] at c3;simp only[Bool.false_or] at c;subst c;simp (maxSteps:=9^9) [eD.l0,hi,h3,h4,c3,er,a1,ab]
   ·simp only[decide_eq_true_eq] at c3;simp (maxSteps:=9^9) [eD.l0,hi,h3,c3,er,a1,ab])
  (fun x=>by
   simp only[KC,MH,aq,boxes,ints];generalize s.boxes.map af=rb at*;simp (maxSteps:=9^9) [eD.l0,er])
 have hany:=tn (fun b=>oI b g) s.boxes;have c0:=lD (mI s.boxes g);unfold qe;rw[hany];generalize (mI s.boxes g).isSome=w1 at*;generalize dA (mI s.boxes g)=z at*;generalize decide (g∈s.gone)=w2 at*;have ez:((0:Nat):Int)=0:=rfl;cases w1
 ·simp only[decide_eq_false_iff_not] at c0;cases w2
  ·cases hq:dV (tJ (fun b=>oI b g) s.boxes) s.boxes.length with
   |none=>
    simp only[KC,MH,hq,lv,ez] at hr;simp only[aq,boxes,ints] at*;simp (maxSteps:=9^9) [ba,eD.m,eD.b,aa,h1,h2,c0,hr,ab]
   |some q=>
    simp only[KC,hq,lv,ez] at hr;simp only[aq,boxes,ints] at*;simp (maxSteps:=9^9) [ba,eD.m,eD.b,aa,h1,h2,c0,hr,ab]
  ·simp only[aq,boxes,ints] at*;simp (maxSteps:=9^9) [ba,eD.m,eD.b,aa,h1,h2,c0,ab]
 ·simp only[decide_eq_true_eq] at c0;simp only[aq,boxes,ints] at*;simp (maxSteps:=9^9) [ba,eD.m,eD.b,aa,h1,c0,ab]
theorem xW{b:bq}(hb:iw b)(g f:Int)(x:List UInt8)(t w:Int):iw (lO b g f x t w).1:=by
 unfold lO;split
 ·rename_i c;exact(qq.1 c.2.2.2.2).vz
 ·exact hb
theorem vE{b:bq}(hb:iw b)(g n t w:Int):iw (kR b g n t w).1:=by
 unfold kR;split
 ·exact hb
 ·split
  ·exact hb
  ·rename_i k hk m hm;split
   ·refine⟨by simpa using hb.m,hb.g,hb.n,fun m' hm'=> ?_⟩;obtain⟨j,hj,rfl⟩:=bQ hm';simp only[List.getElem_set];split
    ·have e:(mM m.flags n t w).length=m.flags.length:=by unfold mM;split<;>simp
     simp only[e];exact hb.f m (jI hm)
    ·exact hb.f _ (ax _)
   ·exact hb
def hO(s:a7)(i:Nat)(b:bq):a7:={s with boxes:=s.boxes.set i b,time:=s.time+1}
def stamped(s:a7)(i:Nat)(b:bq):a7×Bool:=if a8 (hO s i b)=true then(hO s i b,true) else(s,false)
structure nw (s:a7):Prop where
 m8:gr s
 time: -1000000000≤s.time∧s.time≤1000000000
theorem nR{s:a7}(hs:gr s){i:Nat}(hi:i<s.boxes.length){b:bq}(hb:iw b)(hm:(s.boxes.flatMap bZ).length+b.ae.length≤1048576):gr (hO s i b):=by
 refine⟨by simpa [hO] using hs.b,hs.g,fun x hx=> ?_, ?_⟩
 ·rcases List.mem_or_eq_of_mem_set hx with q|q
  ·exact hs.i x q
  ·rw[q];exact hb
 ·have e:s.boxes.set i b=s.boxes.take i++b::s.boxes.drop (i+1):=List.set_eq_take_append_cons_drop.trans (by rw[if_pos hi]);simp only[hO];rw[e];have hsub:((s.boxes.take i).flatMap bZ).length+((s.boxes.drop (i+1)).flatMap bZ).length≤(s.boxes.flatMap bZ).length:=by
   conv=>rhs;rw[←da i s.boxes,bA hi]
   simp only[List.flatMap_append,cj,aD];omega
  simp only[List.flatMap_append,cj,aD,bZ,eM] at hsub hm ⊢;omega
theorem dW.ak(h:dW.k M)(s:a7)(hs:nw s)(i:Nat)(hi:i<s.boxes.length)(b:bq)(hb:iw b)(hm:(s.boxes.flatMap bZ).length+b.ae.length≤1048576):
  run M 302 [.a (aq s),.c (I i),.a (af b)] []=some (.lM [.a (a_ (stamped s i b).1),.c (.bool (stamped s i b).2)],[]):=by
 obtain⟨h0,ko,kc⟩:=h;have ht:=hs.time;have h1:=b5.ak kc s hs.m8;have h2:=aJ.ak ko (hO s i b) (nR hs.m8 hi hb hm);refine au (b:=dW.m) h0 ⟨0, ?_⟩;have e5:IntKind.i64.wrap (s.time+1)=s.time+1:=wrap_i64 (by omega) (by omega);have er:(s.boxes.map af).length=s.boxes.length:=by simp
 have eg:=aS s.gone;have es:(hO s i b).boxes.map af=(s.boxes.map af).set i (af b):=by simp only[hO,iE]
 have ew:(hO s i b).eJ=s.eJ:=rfl;have et:(hO s i b).time=s.time+1:=rfl;have egn:(hO s i b).gone=s.gone:=rfl;have a1:∀hh,(s.boxes.map af)[i]'hh=af s.boxes[i]:=by intro hh;simp
 unfold stamped;cases c:a8 (hO s i b) with
 |true=>
  rw[c] at h2;rw[if_pos rfl];simp only[aq,a_,boxes,ints,es,ew,et,egn] at h1 h2 ⊢;clear es c;simp only[af,ae,ints] at h2 a1 ⊢;generalize s.boxes.map af=rb at*;generalize aA s.gone=rs at*;generalize s.boxes[i].ae.map ah=r1 at*;generalize aA s.boxes[i].gone=r2 at*;generalize b.ae.map ah=r3 at*;generalize aA b.gone=r4 at*;simp (maxSteps:=9^9) [ba,dW.m,dW.b,aa,setAt,hi,h1,h2,e5,er,eg,a1,ab]
 |false=>
  rw[c] at h2;rw[if_neg (by decide)];simp only[aq,a_,boxes,ints,es,ew,et,egn] at h1 h2 ⊢;clear es c;simp only[af,ae,ints] at h2 a1 ⊢;generalize s.boxes.map af=rb at*;generalize aA s.gone=rs at*;generalize s.boxes[i].ae.map ah=r1 at*;generalize aA s.boxes[i].gone=r2 at*;generalize b.ae.map ah=r3 at*;generalize aA b.gone=r4 at*;simp (maxSteps:=9^9) [ba,dW.m,dW.b,aa,setAt,hi,h1,h2,e5,er,eg,a1,ab]
def at_(s:a7)(g:Int)(f:Nat→bq→a7×Bool):a7×Bool:=match mI s.boxes g with
 |none=>(s,false)
 |some i=>match s.boxes[i]? with
  |none=>(s,false)
  |some b=>f i b
theorem nI{s:a7}{g:Int}{f:Nat→bq→a7×Bool}(h:mI s.boxes g=none):at_ s g f=(s,false):=by simp only[at_,h]
theorem nH{s:a7}{g:Int}{f:Nat→bq→a7×Bool}{i:Nat}(h:mI s.boxes g=some i)(hi:i<s.boxes.length):at_ s g f=f i s.boxes[i]:=by simp only[at_,h,cw hi]
def nD(s:a7)(g m f:Int)(x:List UInt8):a7×Bool:=if a8 s=true∧qe s m=false then at_ s g fun i b=>if(lO b m f x (s.time+1) s.eJ).2=true then stamped s i (lO b m f x (s.time+1) s.eJ).1 else(s,false) else(s,false)
def ml(s:a7)(g m f:Int):a7×Bool:=if a8 s=true then at_ s g fun i b=>if(kR b m f (s.time+1) s.eJ).2=true then stamped s i (kR b m f (s.time+1) s.eJ).1 else(s,false) else(s,false)
def mo(s:a7)(g m:Int):a7×Bool:=if a8 s=true then at_ s g fun i b=>if(lp b m).2=true then({s with boxes:=s.boxes.set i (lp b m).1},true) else(s,false) else(s,false)
theorem oo{s:a7}(h:a8 s=true):(s.boxes.flatMap bZ).length≤50:=by
 have G:=(ev h).boxes;have key:∀l:List bq,(∀x∈l,x.ae.length≤10)→(l.flatMap bZ).length≤10*l.length:=by
  intro l
  induction l with
  |nil=>intro _;simp
  |cons x l ih=>
   intro h;have h1:=ih fun y hy=>h y (bo _ hy)
   have h2:=h x (bl ..);simp only[cj,aD,bZ,eM,bV] at h1 ⊢;omega
 have:=key s.boxes fun x hx=>(G.mh x hx).len
 have:=G.len;omega
theorem s4{b:bq}(hb:Good b)(g f:Int)(x:List UInt8)(t w:Int):(lO b g f x t w).1.ae.length≤11:=by
 unfold lO;split
 ·rename_i c;exact Nat.le_trans (qq.1 c.2.2.2.2).len (by omega)
 ·have:=hb.len;simp only;omega
theorem rQ{b:bq}(hb:Good b)(g n t w:Int):(kR b g n t w).1.ae.length≤11:=by
 have:=hb.len;unfold kR;split
 ·simp only;omega
 ·split
  ·simp only;omega
  ·split
   ·simp only[List.length_set];omega
   ·simp only;omega
theorem eX.ak(h:eX.k M)(s:a7)(hs:nw s)(g m f:Int)(x:List UInt8):
  run M 279 [.a (aq s),.c (I g),.c (I m),.c (I f),.c (S x)] []=some (.lM [.a (a_ (nD s g m f x).1),.c (.bool (nD s g m f x).2)],[]):=by
 obtain⟨h0,ka,ko,kb,kc,kk,kn,kst⟩:=h;have h1:=dk.ak kb s g hs.m8.b;have h2:=aJ.ak ko s hs.m8;have h3:=eD.ak kk s m hs.m8;have h4:=b5.ak kc s hs.m8;have h5:=dH.ak kn s hs.time;have er:(s.boxes.map af).length=s.boxes.length:=by simp
 have eg:=aS s.gone;refine au (b:=eX.m) h0 ⟨0, ?_⟩;unfold nD;cases c1:a8 s with
 |false=>
  rw[c1] at h2;simp only[aB,false_and,if_false];simp only[aq,a_,boxes,ints] at*;generalize s.boxes.map af=rb at*;generalize aA s.gone=rs at*;simp (maxSteps:=9^9) [ba,eX.m,eX.b,aa,setAt,h1,h2,h4,er,eg,ab]
 |true=>
  rw[c1] at h2;cases c2:qe s m with
  |true=>
   rw[c2] at h3;simp only[Bool.true_eq_false,and_false,if_false];simp only[aq,a_,boxes,ints] at*;generalize s.boxes.map af=rb at*;generalize aA s.gone=rs at*;simp (maxSteps:=9^9) [ba,eX.m,eX.b,aa,setAt,h1,h2,h3,h4,er,eg,ab]
  |false=>
   rw[c2] at h3;rw[if_pos ⟨rfl,rfl⟩];cases c3:mI s.boxes g with
   |none=>
    rw[c3] at h1;rw[nI c3];simp only[aq,a_,boxes,ints,dA] at*;generalize s.boxes.map af=rb at*;generalize aA s.gone=rs at*;simp (maxSteps:=9^9) [ba,eX.m,eX.b,aa,setAt,h1,h2,h3,h4,er,eg,ab]
   |some i=>
    rw[c3] at h1;obtain⟨hi,_⟩:=jT c3;rw[nH c3 hi];have hG:=(ev c1).boxes.mh _ (ax hi);have h6:=dS.ak ka s.boxes[i] hG.vz m f x (s.time+1) s.eJ;have hin:=xW hG.vz m f x (s.time+1) s.eJ;have h7:=dW.ak kst s hs i hi (lO s.boxes[i] m f x (s.time+1) s.eJ).1 hin (by have:=oo c1;have:=s4 hG m f x (s.time+1) s.eJ;omega);have a1:∀hh,(s.boxes.map af)[i]'hh=af s.boxes[i]:=by intro hh;simp
    have ni:¬(i:Int)<0:=by omega
    generalize lO s.boxes[i] m f x (s.time+1) s.eJ=A at*;obtain⟨b',ok⟩:=A;generalize stamped s i b'=B at*;obtain⟨s',ok'⟩:=B;have er2:(s'.boxes.map af).length=s'.boxes.length:=by simp
    have eg2:=aS s'.gone;simp only[aq,a_,boxes,ints,dA] at h1 h2 h3 h4 h5 h7 ⊢;simp only[af,b7,ae,ints] at h6 h7 a1;generalize hrb:s.boxes.map af=rb at*;generalize hrs:aA s.gone=rs at*;generalize s.boxes[i].ae.map ah=r1 at*;generalize aA s.boxes[i].gone=r2 at*;generalize b'.ae.map ah=r3 at*;generalize aA b'.gone=r4 at*;cases ok
    ·simp only[aB,if_false];simp (maxSteps:=9^9) [ba,eX.m,eX.b,aa,setAt,hi,ni,h1,h2,h3,h4,h5,h6,er,eg,a1,ab];exact⟨hrb.symm,hrs.symm⟩
    ·simp only[if_true];generalize s'.boxes.map af=rb' at*;generalize aA s'.gone=rs' at*;simp (maxSteps:=9^9) [ba,eX.m,eX.b,aa,setAt,hi,ni,h1,h2,h3,h5,h6,h7,er,er2,eg2,a1,ab]
theorem eP.ak(h:eP.k M)(s:a7)(hs:nw s)(g m f:Int):
  run M 280 [.a (aq s),.c (I g),.c (I m),.c (I f)] []=some (.lM [.a (a_ (ml s g m f).1),.c (.bool (ml s g m f).2)],[]):=by
 obtain⟨h0,ka,ko,kb,kc,kn,kst⟩:=h;have h1:=dk.ak kb s g hs.m8.b;have h2:=aJ.ak ko s hs.m8;have h4:=b5.ak kc s hs.m8;have h5:=dH.ak kn s hs.time;have er:(s.boxes.map af).length=s.boxes.length:=by simp
 have eg:=aS s.gone;refine au (b:=eP.m) h0 ⟨0, ?_⟩;unfold ml;cases c1:a8 s with
 |false=>
  rw[c1] at h2;simp only[aB,if_false];simp only[aq,a_,boxes,ints] at*;generalize s.boxes.map af=rb at*;generalize aA s.gone=rs at*;simp (maxSteps:=9^9) [ba,eP.m,eP.b,aa,setAt,h1,h2,h4,er,eg,ab]
 |true=>
  rw[c1] at h2;rw[if_pos rfl];cases c3:mI s.boxes g with
  |none=>
   rw[c3] at h1;rw[nI c3];simp only[aq,a_,boxes,ints,dA] at*;generalize s.boxes.map af=rb at*;generalize aA s.gone=rs at*;simp (maxSteps:=9^9) [ba,eP.m,eP.b,aa,setAt,h1,h2,h4,er,eg,ab]
  |some i=>
   rw[c3] at h1;obtain⟨hi,_⟩:=jT c3;rw[nH c3 hi];have hG:=(ev c1).boxes.mh _ (ax hi);have h6:=dD.ak ka s.boxes[i] hG.vz m f (s.time+1) s.eJ;have hin:=vE hG.vz m f (s.time+1) s.eJ;have h7:=dW.ak kst s hs i hi (kR s.boxes[i] m f (s.time+1) s.eJ).1 hin (by have:=oo c1;have:=rQ hG m f (s.time+1) s.eJ;omega);have a1:∀hh,(s.boxes.map af)[i]'hh=af s.boxes[i]:=by intro hh;simp
   have ni:¬(i:Int)<0:=by omega
   generalize kR s.boxes[i] m f (s.time+1) s.eJ=A at*;obtain⟨b',ok⟩:=A;generalize stamped s i b'=B at*;obtain⟨s',ok'⟩:=B;have er2:(s'.boxes.map af).length=s'.boxes.length:=by simp
   have eg2:=aS s'.gone;simp only[aq,a_,boxes,ints,dA] at h1 h2 h4 h5 h7 ⊢;simp only[af,b7,ae,ints] at h6 h7 a1;generalize hrb:s.boxes.map af=rb at*;generalize hrs:aA s.gone=rs at*;generalize s.boxes[i].ae.map ah=r1 at*;generalize aA s.boxes[i].gone=r2 at*;generalize b'.ae.map ah=r3 at*;generalize aA b'.gone=r4 at*;cases ok
   ·simp only[aB,if_false];simp (maxSteps:=9^9) [ba,eP.m,eP.b,aa,setAt,hi,ni,h1,h2,h4,h5,h6,er,eg,a1,ab];exact⟨hrb.symm,hrs.symm⟩
   ·simp only[if_true];generalize s'.boxes.map af=rb' at*;generalize aA s'.gone=rs' at*;simp (maxSteps:=9^9) [ba,eP.m,eP.b,aa,setAt,hi,ni,h1,h2,h5,h6,h7,er,er2,eg2,a1,ab]
theorem eQ.ak(h:eQ.k M)(s:a7)(hs:nw s)(g m:Int):
  run M 281 [.a (aq s),.c (I g),.c (I m)] []=some (.lM [.a (a_ (mo s g m).1),.c (.bool (mo s g m).2)],[]):=by
 obtain⟨h0,kt,ko,kb,kc⟩:=h;have h1:=dk.ak kb s g hs.m8.b;have h2:=aJ.ak ko s hs.m8;have h4:=b5.ak kc s hs.m8;have er:(s.boxes.map af).length=s.boxes.length:=by simp
 have eg:=aS s.gone;refine au (b:=eQ.m) h0 ⟨0, ?_⟩;unfold mo;cases c1:a8 s with
 |false=>
  rw[c1] at h2;simp only[aB,if_false];simp only[aq,a_,boxes,ints] at*;generalize s.boxes.map af=rb at*;generalize aA s.gone=rs at*;simp (maxSteps:=9^9) [ba,eQ.m,eQ.b,aa,setAt,h1,h2,h4,er,eg,ab]
 |true=>
  rw[c1] at h2;rw[if_pos rfl];cases c3:mI s.boxes g with
  |none=>
   rw[c3] at h1;rw[nI c3];simp only[aq,a_,boxes,ints,dA] at*;generalize s.boxes.map af=rb at*;generalize aA s.gone=rs at*;simp (maxSteps:=9^9) [ba,eQ.m,eQ.b,aa,setAt,h1,h2,h4,er,eg,ab]
  |some i=>
   rw[c3] at h1;obtain⟨hi,_⟩:=jT c3;rw[nH c3 hi];have hG:=(ev c1).boxes.mh _ (ax hi);have h6:=de.ak kt s.boxes[i] hG.vz m;have a1:∀hh,(s.boxes.map af)[i]'hh=af s.boxes[i]:=by intro hh;simp
   have ni:¬(i:Int)<0:=by omega
   generalize lp s.boxes[i] m=A at*;obtain⟨b',ok⟩:=A;have es:(s.boxes.set i b').map af=(s.boxes.map af).set i (af b'):=iE;simp only[aq,a_,boxes,ints,dA] at h1 h2 h4 ⊢;simp only[af,b7,ae,ints] at h6 a1 es;cases ok
   ·simp only[aB,if_false];generalize s.boxes.map af=rb at*;generalize aA s.gone=rs at*;generalize s.boxes[i].ae.map ah=r1 at*;generalize aA s.boxes[i].gone=r2 at*;generalize b'.ae.map ah=r3 at*;generalize aA b'.gone=r4 at*;simp (maxSteps:=9^9) [ba,eQ.m,eQ.b,aa,setAt,hi,ni,h1,h2,h4,h6,er,eg,a1,ab]
   ·simp only[if_true,es];clear es;generalize s.boxes.map af=rb at*;generalize aA s.gone=rs at*;generalize s.boxes[i].ae.map ah=r1 at*;generalize aA s.boxes[i].gone=r2 at*;generalize b'.ae.map ah=r3 at*;generalize aA b'.gone=r4 at*;simp (maxSteps:=9^9) [ba,eQ.m,eQ.b,aa,setAt,hi,ni,h1,h2,h4,h6,er,eg,a1,ab]
def j_(s:a7)(nm:List UInt8)(b:bq):bq:={b with name:=nm,time:=s.time+1,eJ:=s.eJ}
def lx(s:a7)(g:Int)(nm:List UInt8):a7×Bool:=if a8 s=true∧(named s.boxes nm).isSome=false then at_ s g fun i b=>stamped s i (j_ s nm b) else(s,false)
theorem cV.ak(h:cV.k M)(s:a7)(hs:nw s)(g:Int)(nm:List UInt8)(hn:nm.length≤1048576):
  run M 282 [.a (aq s),.c (I g),.c (S nm)] []=some (.lM [.a (a_ (lx s g nm).1),.c (.bool (lx s g nm).2)],[]):=by
 obtain⟨h0,ko,kb,kc,kn,kst⟩:=h;have ht:=hs.time;have h1:=dk.ak kb s g hs.m8.b;have h2:=aJ.ak ko s hs.m8;have h3:=cv.ak kn s nm hs.m8.b;have h4:=b5.ak kc s hs.m8;have h5:=dH.ak kst s hs.time;have er:(s.boxes.map af).length=s.boxes.length:=by simp
 have eg:=aS s.gone;have e5:IntKind.i64.wrap (s.time+1)=s.time+1:=wrap_i64 (by omega) (by omega);refine au (b:=cV.m) h0 ⟨0, ?_⟩;unfold lx;cases c1:a8 s with
 |false=>
  rw[c1] at h2;simp only[aB,false_and,if_false];simp only[aq,a_,boxes,ints] at*;generalize s.boxes.map af=rb at*;generalize aA s.gone=rs at*;simp (maxSteps:=9^9) [ba,cV.m,cV.b,aa,setAt,h1,h2,h4,er,eg,ab]
 |true=>
  rw[c1] at h2;cases c3:mI s.boxes g with
  |none=>
   rw[c3] at h1;have e:(if true=true∧(named s.boxes nm).isSome=false then at_ s g fun i b=>stamped s i (j_ s nm b) else(s,false))=(s,false):=by
    rw[nI c3];split<;>rfl
   rw[e];simp only[aq,a_,boxes,ints,dA] at*;generalize s.boxes.map af=rb at*;generalize aA s.gone=rs at*;simp (maxSteps:=9^9) [ba,cV.m,cV.b,aa,setAt,h1,h2,h4,er,eg,ab]
  |some i=>
   rw[c3] at h1;obtain⟨hi,_⟩:=jT c3;have ni:¬(i:Int)<0:=by omega
   have c0:=lD (named s.boxes nm);cases c2:(named s.boxes nm).isSome with
   |true=>
    rw[c2] at c0;simp only[decide_eq_true_eq] at c0;simp only[Bool.true_eq_false,and_false,if_false];generalize dA (named s.boxes nm)=z at*;simp only[aq,a_,boxes,ints,dA] at*;generalize s.boxes.map af=rb at*;generalize aA s.gone=rs at*;simp (maxSteps:=9^9) [ba,cV.m,cV.b,aa,setAt,ni,c0,h1,h2,h3,h4,er,eg,ab]
   |false=>
    rw[c2] at c0;simp only[decide_eq_false_iff_not] at c0;rw[if_pos ⟨rfl,rfl⟩,nH c3 hi];have hG:=(ev c1).boxes.mh _ (ax hi);have hin:iw (j_ s nm s.boxes[i]):=⟨hG.vz.m,hG.vz.g,hn,hG.vz.f⟩;have h6:=aJ.ak ko _ (nR hs.m8 hi hin (by have:=oo c1;have:=hG.len;simp only[j_];omega));have a1:∀hh,(s.boxes.map af)[i]'hh=af s.boxes[i]:=by intro hh;simp
    have es:(hO s i (j_ s nm s.boxes[i])).boxes.map af=(s.boxes.map af).set i (af (j_ s nm s.boxes[i])):=by simp only[hO,iE]
    have ew:(hO s i (j_ s nm s.boxes[i])).eJ=s.eJ:=rfl;have et:(hO s i (j_ s nm s.boxes[i])).time=s.time+1:=rfl;have egn:(hO s i (j_ s nm s.boxes[i])).gone=s.gone:=rfl;unfold stamped;generalize dA (named s.boxes nm)=z at*;cases c:a8 (hO s i (j_ s nm s.boxes[i])) with
    |true=>
     rw[c] at h6;rw[if_pos rfl];simp only[aq,a_,boxes,ints,dA,es,ew,et,egn] at h1 h2 h3 h4 h5 h6 ⊢;clear es c;simp only[af,ae,ints,j_] at h6 a1 ⊢;generalize s.boxes.map af=rb at*;generalize aA s.gone=rs at*;generalize s.boxes[i].ae.map ah=r1 at*;generalize aA s.boxes[i].gone=r2 at*;simp (maxSteps:=9^9) [ba,cV.m,cV.b,aa,setAt,hi,ni,c0,h1,h2,h3,h4,h5,h6,e5,er,eg,a1,ab]
    |false=>
     rw[c] at h6;rw[if_neg (by decide)];simp only[aq,a_,boxes,ints,dA,es,ew,et,egn] at h1 h2 h3 h4 h5 h6 ⊢;clear es c;simp only[af,ae,ints,j_] at h6 a1 ⊢;generalize s.boxes.map af=rb at*;generalize aA s.gone=rs at*;generalize s.boxes[i].ae.map ah=r1 at*;generalize aA s.boxes[i].gone=r2 at*;simp (maxSteps:=9^9) [ba,cV.m,cV.b,aa,setAt,hi,ni,c0,h1,h2,h3,h4,h5,h6,e5,er,eg,a1,ab]
def nG(s:a7)(g:Int):a7×Bool:=if a8 s=true∧s.gone.length<20 then at_ s g fun i _=>({s with boxes:=s.boxes.take i++s.boxes.drop (i+1),gone:=la s.gone g},true) else(s,false)
theorem eY.ak(h:eY.k M)(s:a7)(hs:nw s)(g:Int):
  run M 283 [.a (aq s),.c (I g)] []=some (.lM [.a (a_ (nG s g).1),.c (.bool (nG s g).2)],[]):=by
 obtain⟨h0,kp,ko,kb,kc⟩:=h;have h1:=dk.ak kb s g hs.m8.b;have h2:=aJ.ak ko s hs.m8;have h4:=b5.ak kc s hs.m8;have h5:=bU.ak kp s.gone g (by have:=hs.m8.g;omega);have er:(s.boxes.map af).length=s.boxes.length:=by simp
 have eg:=aS s.gone;have hbl:=hs.m8.b;refine au (b:=eY.m) h0 ⟨0, ?_⟩;unfold nG;cases c1:a8 s with
 |false=>
  rw[c1] at h2;simp only[aB,false_and,if_false];simp only[aq,a_,boxes,ints] at*;generalize s.boxes.map af=rb at*;generalize aA s.gone=rs at*;simp (maxSteps:=9^9) [ba,eY.m,eY.b,aa,setAt,h1,h2,h4,er,eg,ab]
 |true=>
  rw[c1] at h2;cases c3:mI s.boxes g with
  |none=>
   rw[c3] at h1;have e:(if true=true∧s.gone.length<20 then at_ s g fun i _=>({s with boxes:=s.boxes.take i++s.boxes.drop (i+1),gone:=la s.gone g},true) else(s,false))=(s,false):=by
    rw[nI c3];split<;>rfl
   rw[e];simp only[aq,a_,boxes,ints,dA] at*;generalize s.boxes.map af=rb at*;generalize aA s.gone=rs at*;simp (maxSteps:=9^9) [ba,eY.m,eY.b,aa,setAt,h1,h2,h4,er,eg,ab]
  |some i=>
   rw[c3] at h1;obtain⟨hi,_⟩:=jT c3;have ni:¬(i:Int)<0:=by omega
   by_cases c2:s.gone.length<20
   ·have c2':¬(20:Int)≤(s.gone.length:Int):=by omega
    have c2'':¬20≤s.gone.length:=by omega
    rw[if_pos ⟨rfl,c2⟩,nH c3 hi];have e5:=cA (i:=i) (by omega);have e6:(s.boxes.take i++s.boxes.drop (i+1)).map af=(s.boxes.map af).take i++(s.boxes.map af).drop (i+1):=by simp[List.map_take,List.map_drop]
    have e7:=aS (la s.gone g);have e8:i≤s.boxes.length:=by omega
    have e9:i+(s.boxes.length-(i+1))≤4294967296:=by omega
    have e10:i≤4294967296:=by omega
    have e11:i+1≤s.boxes.length:=by omega
    have e12:Min.min i s.boxes.length=i:=by omega
    simp only[aq,a_,boxes,ints,dA,e6] at h1 h2 h4 h5 ⊢;generalize aA (la s.gone g)=rp at*;generalize s.boxes.map af=rb at*;generalize aA s.gone=rs at*;have f1:(0:Int)≤(i:Int)+1:=by omega
    have f2:((i:Int)+1).toNat=i+1:=by omega
    by_cases c9:i+1=s.boxes.length
    ·have d1:rb.drop (i+1)=[]:=dY (by omega);have d2:rb.drop s.boxes.length=[]:=dY (by omega);have d3:s.boxes.length-(i+1)=0:=by omega
     have d4:¬s.boxes.length=0:=by omega
     rw[←c9] at hi er;simp (maxSteps:=9^9) [ba,eY.m,eY.b,aa,setAt,ni,c2',h1,h2,h4,h5,e5,e7,e10,d1,f1,f2,er,eg,ab]
    ·simp (maxSteps:=9^9) [ba,eY.m,eY.b,aa,setAt,ni,c2',c9,f1,f2,h1,h2,h4,h5,e5,e7,e8,e9,e10,e11,e12,er,eg,ab]
   ·have c2':(20:Int)≤(s.gone.length:Int):=by omega
    have c2'':20≤s.gone.length:=by omega
    simp only[c2,and_false,if_false];simp only[aq,a_,boxes,ints,dA] at*;generalize s.boxes.map af=rb at*;generalize aA s.gone=rs at*;simp (maxSteps:=9^9) [ba,eY.m,eY.b,aa,setAt,ni,c2',h1,h2,h4,er,eg,ab]
structure Ks where
 s:a7
 g:Int
 N:List T
 u3:Nat
 u6:Nat
 u8:Nat
 u9:Nat
 w2:Nat
 w3:Nat
def EF(c:Ks)(v n:Nat):List T:=[I c.s.eJ,I c.s.time,.row 30 v 0 n,.row 12903 c.w3 0 c.s.gone.length]
def KK(c:Ks)(i:Nat)(out:List bq)(y:Nat×Nat):St:={t:=[(1,.c (I c.g)),(3,.c (.ptr 3 c.u3 0 0)),(6,.c (.ptr 6 c.u6 0 0)),(8,.c (.ptr 8 c.u8 0 0)),(9,.c (.ptr 9 c.u9 0 0)),(10,.c (I i))],o:=[(3,⟨c.u3,4,true,true,[aq c.s]⟩),(6,⟨c.u6,4,true,true,[oL]⟩),(8,⟨c.u8,4,true,true,[EF c y.1 out.length]⟩),(9,⟨c.u9,7,true,true,[c.N]⟩),(30,⟨y.1,7,true,false,out.map af⟩),(12902,⟨c.w2,7,true,false,c.s.boxes.map af⟩),(12903,⟨c.w3,1,true,false,aA c.s.gone⟩)],n:=y.2}
def Ma(c:Ks)(out:List bq)(y:Nat×Nat):St:={t:=[(1,.c (I c.g)),(3,.c (.ptr 3 c.u3 0 0)),(6,.c (.ptr 6 c.u6 0 0)),(8,.c (.ptr 8 c.u8 0 0)),(9,.c (.ptr 9 c.u9 0 0)),(10,.c (I c.s.boxes.length)),(41,.c (.bool false))],o:=[(3,⟨c.u3,4,true,true,[aq c.s]⟩),(6,⟨c.u6,4,true,true,[oL]⟩),(8,⟨c.u8,4,true,true,[EF c y.1 out.length]⟩),(9,⟨c.u9,7,true,true,[c.N]⟩),(30,⟨y.1,7,true,false,out.map af⟩),(12902,⟨c.w2,7,true,false,c.s.boxes.map af⟩),(12903,⟨c.w3,1,true,false,aA c.s.gone⟩)],n:=y.2}
def KJ(c:Ks)(i:Nat)(out:List bq)(y:Nat×Nat):St:={t:=[(1,.c (I c.g)),(3,.c (.ptr 3 c.u3 0 0)),(6,.c (.ptr 6 c.u6 0 0)),(8,.c (.ptr 8 c.u8 0 0)),(11,.c (I i))],o:=[(3,⟨c.u3,4,true,true,[aq c.s]⟩),(6,⟨c.u6,4,true,true,[oL]⟩),(8,⟨c.u8,4,true,true,[EF c y.1 out.length]⟩),(30,⟨y.1,7,true,false,out.map af⟩),(12902,⟨c.w2,7,true,false,c.s.boxes.map af⟩),(12903,⟨c.w3,1,true,false,aA c.s.gone⟩)],n:=y.2}
def L_(c:Ks)(out:List bq)(y:Nat×Nat):St:={t:=[(1,.c (I c.g)),(3,.c (.ptr 3 c.u3 0 0)),(6,.c (.ptr 6 c.u6 0 0)),(8,.c (.ptr 8 c.u8 0 0)),(11,.c (I c.s.boxes.length)),(73,.c (.bool false))],o:=[(3,⟨c.u3,4,true,true,[aq c.s]⟩),(6,⟨c.u6,4,true,true,[oL]⟩),(8,⟨c.u8,4,true,true,[EF c y.1 out.length]⟩),(30,⟨y.1,7,true,false,out.map af⟩),(12902,⟨c.w2,7,true,false,c.s.boxes.map af⟩),(12903,⟨c.w3,1,true,false,aA c.s.gone⟩)],n:=y.2}
theorem qW(p:bq→Bool):∀(l s:List bq),l.foldl (fun s a=>if p a=true then s++[a] else s) s=s++l.filter p
 |[],s=>by simp
 |a::l,s=>by
  rw[eN,qW p l,iI];by_cases h:p a=true<;>simp[h]
theorem HM(kc:bX.k M)(k:Nat)(c:Ks)(hs:gr c.s)(hk:c.s.boxes.length<k)(y:Nat×Nat):
  ∃z,fx (cz (run M) k bY.l0) k (KK c 0 [] y)=some (.exit 0,Ma c (c.s.boxes.filter fun b=>decide (b.gid<c.g)) z):=by
 have hbl:=hs.b;have er:(c.s.boxes.map af).length=c.s.boxes.length:=by simp
 obtain⟨g,hr⟩:=jB (f:=cz (run M) k bY.l0) c.s.boxes (fun s b=>if decide (b.gid<c.g)=true then s++[b] else s) (fun i s=>s.length≤i) (KK c) 0 (Ma c)
  (fun i h s hs=>by split<;>(try simp)<;>omega)
  (fun i hi s y hi2=>by
   obtain⟨v,n⟩:=y;have hB:=hs.i _ (ax hi);have h1:=bX.ak kc c.s.boxes[i] hB;have e5:=cA (i:=i) (by omega);have e6:s.length+1≤4294967296:=by omega
   have e9:(s.map af).length=s.length:=by simp
   have a1:∀hh,(c.s.boxes.map af)[i]'hh=af c.s.boxes[i]:=by intro hh;simp
   simp only[aE];by_cases q:c.s.boxes[i].gid<c.g
   ·simp only[q,decide_true,if_true,KK,EF,cg,bu,bS,aD,bM];simp only[aq,af,b7,boxes,ae,ints] at a1 h1 ⊢;generalize c.s.boxes.map af=rb at*;generalize aA c.s.gone=rs at*;generalize s.map af=ro at*;generalize c.s.boxes[i].ae.map ah=r1 at*;generalize aA c.s.boxes[i].gone=r2 at*;simp (maxSteps:=9^9) [bY.l0,aa,setAt,hi,q,h1,e5,e6,e9,er,a1,ab]
   ·simp only[q,decide_false,aB,if_false,KK,EF];simp only[aq,af,b7,boxes,ae,ints] at a1 h1 ⊢;generalize c.s.boxes.map af=rb at*;generalize aA c.s.gone=rs at*;generalize s.map af=ro at*;generalize c.s.boxes[i].ae.map ah=r1 at*;generalize aA c.s.boxes[i].gone=r2 at*;simp (maxSteps:=9^9) [bY.l0,aa,hi,q,e5,er,a1])
  (fun s y hs=>by
   obtain⟨v,n⟩:=y;simp only[aE,KK,Ma,EF,aq,boxes,ints];generalize c.s.boxes.map af=rb at*;generalize aA c.s.gone=rs at*;generalize s.map af=ro at*;simp (maxSteps:=9^9) [bY.l0,aa,er]) [] (by simp)
 rw[qW,List.nil_append] at hr;exact⟨_,gz (hr y) (by omega)⟩
theorem HL(kc:bX.k M)(k:Nat)(c:Ks)(hs:gr c.s)(hk:c.s.boxes.length<k)(o0:List bq)(ho:o0.length≤2097152)(y:Nat×Nat):
  ∃z,fx (cz (run M) k bY.l1) k (KJ c 0 o0 y)=some (.exit 2,L_ c (o0++c.s.boxes.filter fun b=>decide (c.g<b.gid)) z):=by
 have hbl:=hs.b;have er:(c.s.boxes.map af).length=c.s.boxes.length:=by simp
 obtain⟨g,hr⟩:=jB (f:=cz (run M) k bY.l1) c.s.boxes (fun s b=>if decide (c.g<b.gid)=true then s++[b] else s) (fun i s=>s.length≤2097152+i) (KJ c) 2 (L_ c)
  (fun i h s hs=>by split<;>(try simp)<;>omega)
  (fun i hi s y hi2=>by
   obtain⟨v,n⟩:=y;have hB:=hs.i _ (ax hi);have h1:=bX.ak kc c.s.boxes[i] hB;have e5:=cA (i:=i) (by omega);have e6:s.length+1≤4294967296:=by omega
   have e9:(s.map af).length=s.length:=by simp
   have a1:∀hh,(c.s.boxes.map af)[i]'hh=af c.s.boxes[i]:=by intro hh;simp
   simp only[aE];by_cases q:c.g<c.s.boxes[i].gid
   ·simp only[q,decide_true,if_true,KJ,EF,cg,bu,bS,aD,bM];simp only[aq,af,b7,boxes,ae,ints] at a1 h1 ⊢;generalize c.s.boxes.map af=rb at*;generalize aA c.s.gone=rs at*;generalize s.map af=ro at*;generalize c.s.boxes[i].ae.map ah=r1 at*;generalize aA c.s.boxes[i].gone=r2 at*;simp (maxSteps:=9^9) [bY.l1,aa,setAt,hi,q,h1,e5,e6,e9,er,a1,ab]
   ·simp only[q,decide_false,aB,if_false,KJ,EF];simp only[aq,af,b7,boxes,ae,ints] at a1 h1 ⊢;generalize c.s.boxes.map af=rb at*;generalize aA c.s.gone=rs at*;generalize s.map af=ro at*;generalize c.s.boxes[i].ae.map ah=r1 at*;generalize aA c.s.boxes[i].gone=r2 at*;simp (maxSteps:=9^9) [bY.l1,aa,hi,q,e5,er,a1])
  (fun s y hs=>by
   obtain⟨v,n⟩:=y;simp only[aE,KJ,L_,EF,aq,boxes,ints];generalize c.s.boxes.map af=rb at*;generalize aA c.s.gone=rs at*;generalize s.map af=ro at*;simp (maxSteps:=9^9) [bY.l1,aa,er]) o0 (by omega)
 rw[qW] at hr;exact⟨_,gz (hr y) (by omega)⟩
def nJ(s:a7)(g:Int)(nm:List UInt8):bq:=⟨g,nm,s.time+1,s.eJ,1,[],[]⟩
def iL(s:a7)(g:Int)(nm:List UInt8):a7:={s with boxes:=(s.boxes.filter fun b=>decide (b.gid<g))++[nJ s g nm]++s.boxes.filter fun b=>decide (g<b.gid),time:=s.time+1}
def nE(s:a7)(g:Int)(nm:List UInt8):a7×Bool:=if a8 s=true∧qe s g=false∧(named s.boxes nm).isSome=false then(if a8 (iL s g nm)=true then(iL s g nm,true) else(s,false)) else(s,false)
theorem yH{s:a7}(h:a8 s=true)(g:Int)(nm:List UInt8)(hn:nm.length≤1048576):gr (iL s g nm):=by
 have G:=ev h;have hl:=G.boxes.len;have f1:=bG (fun b:bq=>decide (b.gid<g)) s.boxes;have f2:=bG (fun b:bq=>decide (g<b.gid)) s.boxes;have hin:∀x∈(iL s g nm).boxes,x∈s.boxes∨x=nJ s g nm:=fun x hx=>by
  simp only[iL,iG,fO,iV] at hx;rcases hx with (q|q)|q
  ·exact .inl q.1
  ·exact .inr q
  ·exact .inl q.1
 have hlen:(iL s g nm).boxes.length≤11:=by simp only[iL,aD,bM];omega
 have key:∀l:List bq,(∀x∈l,x.ae.length≤10)→(l.flatMap bZ).length≤10*l.length:=by
  intro l
  induction l with
  |nil=>intro _;simp
  |cons x l ih=>
   intro h;have h1:=ih fun y hy=>h y (bo _ hy)
   have h2:=h x (bl ..);simp only[cj,aD,bZ,eM,bV] at h1 ⊢;omega
 refine⟨by omega,by have:=G.gone;simp only[iL];omega,fun x hx=> ?_, ?_⟩
 ·rcases hin x hx with q|q
  ·exact(G.boxes.mh x q).vz
  ·rw[q];exact⟨by simp[nJ],by simp[nJ],hn,by simp[nJ]⟩
 ·have:=key (iL s g nm).boxes fun x hx=>by
   rcases hin x hx with q|q
   ·exact(G.boxes.mh x q).len
   ·rw[q];simp[nJ]
  omega
theorem bY.ak(h:bY.k M)(s:a7)(hs:nw s)(g:Int)(nm:List UInt8)(hn:nm.length≤1048576):
  run M 278 [.a (aq s),.c (I g),.c (S nm)] []=some (.lM [.a (a_ (nE s g nm).1),.c (.bool (nE s g nm).2)],[]):=by
 obtain⟨h0,ko,kc6,kc,kn,kk,kst⟩:=h;have ht:=hs.time;have hbl:=hs.m8.b;have h2:=aJ.ak ko s hs.m8;have h3:=cv.ak kn s nm hs.m8.b;have h7:=eD.ak kk s g hs.m8;have h4:=b5.ak kc s hs.m8;have h5:=dH.ak kst s hs.time;have er:(s.boxes.map af).length=s.boxes.length:=by simp
 have eg:=aS s.gone;have e5:IntKind.i64.wrap (s.time+1)=s.time+1:=wrap_i64 (by omega) (by omega);have c0:=lD (named s.boxes nm);refine au (b:=bY.m) h0 ⟨s.boxes.length+1, ?_⟩;unfold nE;cases c1:a8 s with
 |false=>
  rw[c1] at h2;simp only[aB,false_and,if_false];simp only[aq,a_,boxes,ints] at*;generalize s.boxes.map af=rb at*;generalize aA s.gone=rs at*;simp (maxSteps:=9^9) [ba,bY.m,bY.b,aa,setAt,h2,h4,er,eg,ab]
 |true=>
  rw[c1] at h2;cases c2:qe s g with
  |true=>
   rw[c2] at h7;simp only[Bool.true_eq_false,false_and,and_false,if_false];simp only[aq,a_,boxes,ints] at*;generalize s.boxes.map af=rb at*;generalize aA s.gone=rs at*;simp (maxSteps:=9^9) [ba,bY.m,bY.b,aa,setAt,h2,h4,h7,er,eg,ab]
  |false=>
   rw[c2] at h7;cases c3:(named s.boxes nm).isSome with
   |true=>
    rw[c3] at c0;simp only[decide_eq_true_eq] at c0;simp only[Bool.true_eq_false,and_false,if_false];generalize dA (named s.boxes nm)=z at*;simp only[aq,a_,boxes,ints] at*;generalize s.boxes.map af=rb at*;generalize aA s.gone=rs at*;simp (maxSteps:=9^9) [ba,bY.m,bY.b,aa,setAt,c0,h2,h3,h4,h7,er,eg,ab]
   |false=>
    rw[c3] at c0;simp only[decide_eq_false_iff_not] at c0;rw[if_pos ⟨rfl,rfl,rfl⟩];have h6:=aJ.ak ko _ (yH c1 g nm hn);obtain⟨⟨v1,n1⟩,r1⟩:=HM kc6 (s.boxes.length+1) ⟨s,g,[I g,S nm,I (s.time+1),I s.eJ,I 1,.aL 4,.aL 1],2000000,2000016,2000304,2000464,2000290,2000291⟩ hs.m8 (by simp only;omega) (2000336,2000512);have f1:=bG (fun b:bq=>decide (b.gid<g)) s.boxes;have f2:=bG (fun b:bq=>decide (g<b.gid)) s.boxes;obtain⟨⟨v2,n2⟩,r2⟩:=HL kc6 (s.boxes.length+1) ⟨s,g,[],2000000,2000016,2000304,0,2000290,2000291⟩ hs.m8 (by simp only;omega) ((s.boxes.filter fun b=>decide (b.gid<g))++[nJ s g nm]) (by simp;omega) (n1+64,n1+128);have ez:((0:Nat):Int)=0:=rfl;have el1:((s.boxes.filter fun b=>decide (b.gid<g)).map af).length=(s.boxes.filter fun b=>decide (b.gid<g)).length:=by simp
    have em:(((s.boxes.filter fun b=>decide (b.gid<g))++[nJ s g nm]).map af)=(s.boxes.filter fun b=>decide (b.gid<g)).map af++[[I g,S nm,I (s.time+1),I s.eJ,I 1,.sl false 4 [],.sl false 1 []]]:=by simp[nJ,af,aA]
    have eml:((s.boxes.filter fun b=>decide (b.gid<g))++[nJ s g nm]).length=(s.boxes.filter fun b=>decide (b.gid<g)).length+1:=by simp
    have e6:(s.boxes.filter fun b=>decide (b.gid<g)).length+1≤4294967296:=by omega
    have emt:(iL s g nm).boxes=(s.boxes.filter fun b=>decide (b.gid<g))++[nJ s g nm]++s.boxes.filter fun b=>decide (g<b.gid):=rfl
    have el2:((iL s g nm).boxes.map af).length=(iL s g nm).boxes.length:=by simp
    have ew:(iL s g nm).eJ=s.eJ:=rfl;have et:(iL s g nm).time=s.time+1:=rfl;have egn:(iL s g nm).gone=s.gone:=rfl;simp only[KK,Ma,EF,ez,bS,dy] at r1;simp only[KJ,L_,EF,ez,←emt,em,eml] at r2;clear emt em eml;generalize dA (named s.boxes nm)=z at*;generalize (s.boxes.filter fun b=>decide (b.gid<g)).map af=rf at*;generalize (s.boxes.filter fun b=>decide (b.gid<g)).length=nf at*;cases c:a8 (iL s g nm) with
    |true=>
     rw[c] at h6;rw[if_pos rfl];simp only[aq,a_,boxes,ints,ew,et,egn] at h2 h3 h4 h5 h6 h7 r1 r2 ⊢;clear c;generalize (iL s g nm).boxes.map af=rm at*;generalize (iL s g nm).boxes.length=nm2 at*;generalize s.boxes.map af=rb at*;generalize aA s.gone=rs at*;simp (maxSteps:=9^9) [ba,bY.m,bY.b,aa,setAt,c0,h2,h3,h4,h5,h6,h7,r1,r2,e5,e6,el1,el2,er,eg,ab]
    |false=>
     rw[c] at h6;rw[if_neg (by decide)];simp only[aq,a_,boxes,ints,ew,et,egn] at h2 h3 h4 h5 h6 h7 r1 r2 ⊢;clear c;generalize (iL s g nm).boxes.map af=rm at*;generalize (iL s g nm).boxes.length=nm2 at*;generalize s.boxes.map af=rb at*;generalize aA s.gone=rs at*;simp (maxSteps:=9^9) [ba,bY.m,bY.b,aa,setAt,c0,h2,h3,h4,h5,h6,h7,r1,r2,e5,e6,el1,el2,er,eg,ab]
end Mx
namespace Mx
open Go
structure LQ (s:a7):Prop where
 eJ:1≤s.eJ∧s.eJ≤2
 time:0≤s.time∧s.time≤100000
 len:s.boxes.length≤5
 gone:ym s.gone
 yP:∀g∈s.gone,1≤g∧g≤9999
 oN:s.gone.length≤20
 box:∀b∈s.boxes,Good b∧¬b.gid∈s.gone∧late b s.time=false
 Jq:s.boxes.Pairwise fun x y=>x.gid<y.gid
 names:s.boxes.Pairwise fun x y=>x.name≠y.name
 ae:(s.boxes.flatMap bZ).Nodup
theorem Fy{l:List bq}(i:Nat)(hi:i<l.length):dA (named l l[i].name)=(i:Int)↔∀j (hj:j<i),(l[j]'(by omega)).name≠l[i].name:=by
 unfold named;constructor
 ·intro h j hj e;cases q:l.findIdx? (fun b=>decide (b.name=l[i].name)) with
  |none=>rw[q] at h;simp[dA] at h
  |some k=>
   rw[q] at h;simp only[dA] at h;have hk:k=i:=by omega
   subst hk;have:=(List.findIdx?_eq_some_iff_getElem.1 q).2.2 j hj;simp[e] at this
 ·intro h;have:l.findIdx? (fun b=>decide (b.name=l[i].name))=some i:=List.findIdx?_eq_some_iff_getElem.2 ⟨hi,by simp,fun j hj=>by simpa using h j hj⟩;rw[this];rfl
theorem AX(seen l:List Int)(hs:seen.Nodup):uM seen l=false↔(seen++l).Nodup:=by
 have h0:uM seen l=false↔∀k (hk:k<l.length),¬l[k]∈seen++l.take k:=by
  unfold uM;rw[Option.isSome_eq_false_iff,ch,jE];constructor
  ·intro h k hk c;have:=h k hk;rw[qk hk] at this;simp only[decide_eq_false_iff_not] at this;exact this c
  ·intro h k hk;rw[qk hk];simpa using h k hk
 rw[h0];constructor
 ·intro h;have key:∀k,k≤l.length→(seen++l.take k).Nodup:=by
   intro k
   induction k with
   |zero=>intro _;simpa using hs
   |succ k ih=>
    intro hk;rw[hH l k (by omega),←b4,List.nodup_append];refine⟨ih (by omega),by simp,fun a ha b hb e=> ?_⟩;simp only[iV] at hb;subst hb;subst e;exact h k (by omega) ha
  have:=key l.length (Nat.le_refl _)
  rwa [List.take_length] at this
 ·intro h k hk c;have e:l=l.take k++l[k]::l.drop (k+1):=by rw[←bA hk,da]
  rw[e,←b4,List.nodup_append] at h;exact h.2.2 _ c _ (bl ..) rfl
theorem Ff(s:a7):(∀i (hi:i<s.boxes.length),uM (seenAt s i) (bZ s.boxes[i])=false)↔(s.boxes.flatMap bZ).Nodup:=by
 have ha:seenAt s s.boxes.length=s.boxes.flatMap bZ:=by simp[seenAt]
 constructor
 ·intro h;have key:∀k,k≤s.boxes.length→(seenAt s k).Nodup:=by
   intro k
   induction k with
   |zero=>intro _;simp[seenAt]
   |succ k ih=>
    intro hk;rw[pL (by omega)];exact(AX _ _ (ih (by omega))).1 (h k (by omega))
  rw[←ha];exact key _ (Nat.le_refl _)
 ·intro h i hi;have hsub:(seenAt s (i+1)).Sublist (s.boxes.flatMap bZ):=by
   have e:s.boxes.flatMap bZ=seenAt s (i+1)++(s.boxes.drop (i+1)).flatMap bZ:=by
    rw[seenAt,←List.flatMap_append,da]
   rw[e];exact List.sublist_append_left ..
  have h1:=h.sublist hsub;rw[pL hi] at h1;exact(AX _ _ (List.nodup_append.1 h1).1).2 h1
theorem jK{s:a7}:a8 s=true↔LQ s:=by
 have hsplit:(∀i (hi:i<s.boxes.length),qt s i=false)↔(∀i (hi:i<s.boxes.length),uU s i=false)∧(∀i (hi:i<s.boxes.length),uM (seenAt s i) (bZ s.boxes[i])=false):=by
  constructor
  ·intro h;exact⟨fun i hi=>by have:=h i hi;rw[n8 hi,fT] at this;exact this.1,fun i hi=>by have:=h i hi;rw[n8 hi,fT] at this;exact this.2⟩
  ·intro h i hi;rw[n8 hi,fT];exact⟨h.1 i hi,h.2 i hi⟩
 have hbox:∀i (hi:i<s.boxes.length),uU s i=false↔fA s.boxes[i]=true∧(0<i→(s.boxes[i-1]'(by omega)).gid<s.boxes[i].gid)∧(∀j (hj:j<i),(s.boxes[j]'(by omega)).name≠s.boxes[i].name)∧¬s.boxes[i].gid∈s.gone∧late s.boxes[i] s.time=false:=fun i hi=>by
  rw[ov hi,←Fy i hi];simp only[fT,Bool.not_eq_eq_eq_not,Bool.not_false,Bool.and_eq_false_imp,decide_eq_true_eq,decide_eq_false_iff_not,Int.not_le];constructor
  ·rintro ⟨⟨⟨⟨h1,h2⟩,h3⟩,h4⟩,h5⟩;exact⟨h1,h2,h3,h4,h5⟩
  ·rintro ⟨h1,h2,h3,h4,h5⟩;exact⟨⟨⟨⟨h1,h2⟩,h3⟩,h4⟩,h5⟩
 have hq:a8 s=true↔((((1≤s.eJ∧s.eJ≤2)∧0≤s.time∧s.time≤100000)∧s.boxes.length≤5)∧lV s.gone 20=true)∧∀i (hi:i<s.boxes.length),qt s i=false:=by
  simp only[a8,aj,decide_eq_true_eq,ch,jE,lE]
 rw[hq,hsplit,Ff];constructor
 ·rintro ⟨⟨⟨⟨h1,h2⟩,h3⟩,h4⟩,h5,h6⟩;obtain⟨g1,g2,g3⟩:=px.1 h4;have hb:=fun i hi=>(hbox i hi).1 (h5 i hi)
  refine⟨h1,h2,h3,g1,g2,by omega,fun b hbm=> ?_, ?_, ?_,h6⟩
  ·obtain⟨i,hi,rfl⟩:=bQ hbm;exact⟨qq.1 (hb i hi).1,(hb i hi).2.2.2.1,(hb i hi).2.2.2.2⟩
  ·have hA:ym (s.boxes.map (·.gid)):=wG fun j hj=>by
    simp only[eM] at hj;have:=(hb (j+1) hj).2.1 (by omega);simpa using this
   exact List.pairwise_map.1 hA
  ·exact List.pairwise_iff_getElem.2 fun i j hi hj hij=>(hb j hj).2.2.1 i hij
 ·intro h;refine⟨⟨⟨⟨h.eJ,h.time⟩,h.len⟩,px.2 ⟨h.gone,h.yP,by have:=h.oN;omega⟩⟩,fun i hi=>(hbox i hi).2 ⟨qq.2 (h.box _ (ax hi)).1,fun q=>List.pairwise_iff_getElem.1 h.Jq (i-1) i (by omega) hi (by omega),fun j hj=>List.pairwise_iff_getElem.1 h.names j i (by omega) hi hj,(h.box _ (ax hi)).2.1,(h.box _ (ax hi)).2.2⟩,h.ae⟩
theorem F3{l l':List bq}(h:l.Sublist l'):(l.flatMap bZ).Sublist (l'.flatMap bZ):=by
 induction h with
 |slnil=>exact List.Sublist.refl _
 |cons a _ ih=>rw[cj];exact ih.trans (List.sublist_append_right _ _)
 |cons_cons a _ ih=>rw[cj,cj];exact List.Sublist.append (List.Sublist.refl _) ih
theorem s_{s:a7}(h:a8 s=true)(i:Nat)(b:bq):a8 (stamped s i b).1=true:=by
 unfold stamped;split
 ·rename_i c;exact c
 ·exact h
theorem Dl{s:a7}(h:a8 s=true)(g:Int)(f:Nat→bq→a7×Bool)(hf:∀i (hi:i<s.boxes.length),a8 (f i s.boxes[i]).1=true):a8 (at_ s g f).1=true:=by
 cases c:mI s.boxes g with
 |none=>rw[nI c];exact h
 |some i=>
  obtain⟨hi,_⟩:=jT c;rw[nH c hi];exact hf i hi
theorem BX{s:a7}(h:a8 s=true)(g m f:Int)(x:List UInt8):a8 (nD s g m f x).1=true:=by
 unfold nD;split
 ·refine Dl h _ _ fun i hi=> ?_
  split
  ·exact s_ h _ _
  ·exact h
 ·exact h
theorem AB{s:a7}(h:a8 s=true)(g m f:Int):a8 (ml s g m f).1=true:=by
 unfold ml;rw[if_pos h];refine Dl h _ _ fun i hi=> ?_
 split
 ·exact s_ h _ _
 ·exact h
theorem zn{s:a7}(h:a8 s=true)(g:Int)(nm:List UInt8):a8 (lx s g nm).1=true:=by
 unfold lx;split
 ·exact Dl h _ _ fun i hi=>s_ h _ _
 ·exact h
theorem B2{s:a7}(h:a8 s=true)(g:Int)(nm:List UInt8):a8 (nE s g nm).1=true:=by
 unfold nE;split
 ·split
  ·rename_i c;exact c
  ·exact h
 ·exact h
theorem Cf{s:a7}(h:a8 s=true){g:Int}(hg:1≤g∧g≤9999):a8 (nG s g).1=true:=by
 unfold nG;split
 ·rename_i c;cases q:mI s.boxes g with
  |none=>rw[nI q];exact h
  |some i=>
   obtain⟨hi,hbi⟩:=jT q;rw[nH q hi];have G:=jK.1 h;have hs:=pT s.boxes i;have hgi:=(lJ hbi).2;refine jK.2 ⟨G.eJ,G.time,Nat.le_trans hs.length_le G.len,tW G.gone,fun x hx=> ?_,by have:=zO s.gone g;simp only;omega,fun b hb=> ?_,G.Jq.sublist hs,G.names.sublist hs,G.ae.sublist (F3 hs)⟩
   ·rcases qi.1 hx with e|e
    ·rw[e];exact hg
    ·exact G.yP x e
   ·obtain⟨b1,b2,b3⟩:=G.box b (hs.subset hb);refine⟨b1,fun e=> ?_,b3⟩;rcases qi.1 e with e|e
    ·rcases List.mem_append.1 hb with z|z
     ·obtain⟨j,hj,rfl⟩:=bQ z;simp only[gd] at hj;rw[List.getElem_take] at e;have:=List.pairwise_iff_getElem.1 G.Jq j i (by omega) hi (by omega);omega
     ·obtain⟨j,hj,rfl⟩:=bQ z;rw[List.getElem_drop] at e;have:=List.pairwise_iff_getElem.1 G.Jq i (i+1+j) hi (by simp at hj;omega) (by omega);omega
    ·exact b2 e
 ·exact h
theorem x_{b:bq}(hb:Good b){m:Int}(ok:(lp b m).2=true):Good (lp b m).1∧(lp b m).1.gid=b.gid∧(lp b m).1.name=b.name∧(lp b m).1.time=b.time∧(lp b m).1.ae.Sublist b.ae:=by
 unfold lp at ok ⊢;cases q:fX b.ae m with
 |none=>rw[q] at ok;cases ok
 |some k=>
  rw[q] at ok;simp only at ok ⊢;obtain⟨hlt,he,_⟩:=pk q;by_cases c:fA b=true∧b.gone.length<40
  ·rw[if_pos c];have:=D4 hb hlt c.2;rw[he] at this;exact⟨this,rfl,rfl,rfl,pT b.ae k⟩
  ·rw[if_neg c] at ok;cases ok
theorem AY{s:a7}(h:a8 s=true)(g m:Int):a8 (mo s g m).1=true:=by
 unfold mo;rw[if_pos h];refine Dl h _ _ fun i hi=> ?_
 split
 ·rename_i c;have G:=jK.1 h;obtain⟨b1,b2,b3⟩:=G.box _ (ax hi);obtain⟨t1,t2,t3,t4,t5⟩:=x_ b1 c;generalize (lp s.boxes[i] m).1=b' at*;have e1:(s.boxes.set i b').map (·.gid)=s.boxes.map (·.gid):=by
   rw[iE];apply List.ext_getElem<;>simp[List.getElem_set];intro j hj h2;subst h2;exact t2
  have e2:(s.boxes.set i b').map (·.name)=s.boxes.map (·.name):=by
   rw[iE];apply List.ext_getElem<;>simp[List.getElem_set];intro j hj h2;subst h2;exact t3
  refine jK.2 ⟨G.eJ,G.time,by simpa using G.len,G.gone,G.yP,G.oN,fun b hb=> ?_, ?_, ?_, ?_⟩
  ·rcases List.mem_or_eq_of_mem_set hb with q|q
   ·exact G.box b q
   ·subst q;refine⟨t1,by rw[t2];exact b2, ?_⟩;unfold late at b3 ⊢;simp only[fT,List.any_eq_false] at b3 ⊢;rw[t4];exact⟨b3.1,fun x hx=>b3.2 x (t5.subset hx)⟩
  ·have:(s.boxes.map (·.gid)).Pairwise (fun a b:Int=>a<b):=List.pairwise_map.2 G.Jq;rw[←e1] at this;exact List.pairwise_map.1 this
  ·have:(s.boxes.map (·.name)).Pairwise (fun a b:List UInt8=>a≠b):=List.pairwise_map.2 G.names;rw[←e2] at this;exact List.pairwise_map.1 this
  ·have e:s.boxes.set i b'=s.boxes.take i++b'::s.boxes.drop (i+1):=List.set_eq_take_append_cons_drop.trans (by rw[if_pos hi]);have e':s.boxes=s.boxes.take i++s.boxes[i]::s.boxes.drop (i+1):=by rw[←bA hi,da]
   have hm:=G.ae;rw[e'] at hm;simp only;rw[e];refine hm.sublist ?_;simp only[List.flatMap_append,cj];exact List.Sublist.append (List.Sublist.refl _) (List.Sublist.append (t5.map _) (List.Sublist.refl _))
 ·exact h
def Nn(b:bq)(g:Int):Prop:=b.gid=g∨g∈b.gone∨∃m∈b.ae,m.gid=g
def Kn(s:a7)(g:Int):Prop:=(∃b∈s.boxes,Nn b g)∨g∈s.gone
def JU:List (List UInt8):=[[105,110,98,111,120],[119,111,114,107],[110,101,119],[111,116,104,101,114],[111,108,100]]
structure LL (b:bq):Prop where
 name:b.name∈JU
 kn:∀g,Nn b g→100≤g∧g≤999
structure Used (n:Nat) (s:a7):Prop where
 ok:a8 s=true
 time:s.time≤n
 gone:s.gone.length≤n
 box:∀b∈s.boxes,LL b
 kn:∀g∈s.gone,100≤g∧g≤999
theorem Used.all{n:Nat}{s:a7}(h:Used n s){g:Int}(k:Kn s g):100≤g∧g≤999:=by
 rcases k with⟨b,h1,h2⟩|k
 ·exact(h.box b h1).kn g h2
 ·exact h.kn g k
theorem Used.mono{n m:Nat}{s:a7}(h:Used n s)(hm:n≤m):Used m s:=⟨h.ok,by have:=h.time;omega,by have:=h.gone;omega,h.box,h.kn⟩
theorem ER{w:Int}(h1:1≤w)(h2:w≤2):Used 0 ⟨w,0,[],[]⟩:=
 ⟨jK.2 ⟨⟨h1,h2⟩,by simp,by simp,List.Pairwise.nil,by simp,by simp,by simp,List.Pairwise.nil,List.Pairwise.nil,List.nodup_nil⟩,by simp,by simp,by simp,by simp⟩
theorem pj{s:a7}(h:a8 s=true):nw s:=by
 have G:=jK.1 h;have H:=ev h;exact⟨⟨by have:=G.len;omega,by have:=G.oN;omega,fun b hb=>(H.boxes.mh b hb).vz,by have:=oo h;omega⟩,by have:=G.time;omega,by have:=G.time;omega⟩
structure Bm (p:Bool) (n:Nat) (s:a7):Prop where
 ok:a8 s=true
 use:p=true→Used n s
theorem Bm.mono{p:Bool}{n m:Nat}{s:a7}(h:Bm p n s)(hm:n≤m):Bm p m s:=⟨h.ok,fun e=>(h.use e).mono hm⟩
theorem Bm.box{p:Bool}{n:Nat}{s:a7}(h:Bm p n s){b:bq}(hb:b∈s.boxes):(1≤b.gid∧b.gid≤9999)∧(p=true→100≤b.gid∧b.gid≤999):=
 ⟨((jK.1 h.ok).box b hb).1.gid,fun e=>((h.use e).box b hb).kn _ (.inl rfl)⟩
end Mx
namespace Mx
open Go
variable {M:Nat→Option Body}
theorem ik.ak(h:ik.k M)(w:Int):run M 113 [.c (I w)] []=some (.a [I w,I 0,.sl true 7 [],.sl true 1 []],[]):=by
 refine au (b:=ik.m) h ⟨0, ?_⟩;simp (maxSteps:=9^9) [ba,ik.m,ik.b,aa,setAt]
def nc(s:List bj×List Int)(m:bj):List bj×List Int:=if m.gid∈s.2 then s else(s.1++[m],s.2++[m.gid])
theorem s9(s0:List Int):∀(ms:List bj) (l:List bj) (s:List Int),(fk ms).Nodup→(∀m∈ms,m.gid∈s↔m.gid∈s0)→(∀g,g∈s0→g∈s)→
  (ms.foldl nc (l,s)).1=l++ms.filter (fun m=> !decide (m.gid∈s0))∧∀g,g∈(ms.foldl nc (l,s)).2↔g∈s∨g∈fk ms
 |[],l,s,_,_,_=>by simp[fk]
 |m::ms,l,s,hn,h1,h2=>by
  have hn':m.gid∉fk ms∧(fk ms).Nodup:=by
   have:=List.nodup_cons.1 (show (m.gid::fk ms).Nodup from hn);exact this
  rw[eN,iI];have hm:=h1 m (bl ..);by_cases c:m.gid∈s
  ·have c0:=hm.1 c;have e:nc (l,s) m=(l,s):=by unfold nc;rw[if_pos c]
   rw[e];obtain⟨q1,q2⟩:=s9 s0 ms l s hn'.2 (fun x hx=>h1 x (bo _ hx)) h2;refine⟨by rw[q1];simp[c0],fun g=> ?_⟩;rw[q2];simp only[fk,bu,uo];constructor
   ·rintro (q|q)
    ·exact .inl q
    ·exact .inr (.inr q)
   ·rintro (q|q|q)
    ·exact .inl q
    ·rw[q];exact .inl c
    ·exact .inr q
  ·have c0:¬m.gid∈s0:=fun q=>c (hm.2 q)
   have e:nc (l,s) m=(l++[m],s++[m.gid]):=by unfold nc;rw[if_neg c]
   rw[e];obtain⟨q1,q2⟩:=s9 s0 ms (l++[m]) (s++[m.gid]) hn'.2 (fun x hx=>by
    rw[iG,iV];have hne:x.gid≠m.gid:=fun e=>hn'.1 (by rw[←e];exact iD hx)
    have:=h1 x (bo _ hx);constructor
    ·rintro (q|q)
     ·exact this.1 q
     ·exact(hne q).elim
    ·exact fun q=> .inl (this.2 q)) (fun g hg=>List.mem_append_left _ (h2 g hg))
   refine⟨by rw[q1];simp[c0],fun g=> ?_⟩;rw[q2];simp only[fk,bu,uo,iG,List.not_mem_nil,or_false,or_assoc]
theorem yw(s:List bj×List Int)(m:bj):(nc s m).1.length≤s.1.length+1∧(nc s m).2.length≤s.2.length+1:=by
 unfold nc;split
 ·omega
 ·simp
def G2(c:x8):List T:=[I c.eJ,I c.time,.row 13500 c.w 0 c.L.length,.row 11900 c.z 0 c.gone.length]
def DE(c:x8)(i:Nat)(j:Nat)(s:List bj×List Int)(y:Nat×Nat×Nat):St:={t:=[(4,.c (.ptr 4 c.u4 0 0)),(5,.c (.ptr 5 c.u6 0 0)),(6,.c (.row 37 y.1 0 s.2.length)),(7,.c (I i)),(8,.c (.row 45 y.2.1 0 s.1.length)),(9,.c (I j))],o:=[(4,⟨c.u4,4,true,true,[oL]⟩),(5,⟨c.u6,4,true,true,[G2 c]⟩),(37,⟨y.1,1,true,false,aA s.2⟩),(45,⟨y.2.1,4,true,false,s.1.map ah⟩),(11900,⟨c.z,1,false,false,aA c.gone⟩),(13500,⟨c.w,7,true,false,(jF c.L i).map af⟩)],n:=y.2.2}
def Hi(c:x8)(i:Nat)(x:bq)(s:List bj×List Int)(y:Nat×Nat×Nat):St:={t:=[(4,.c (.ptr 4 c.u4 0 0)),(5,.c (.ptr 5 c.u6 0 0)),(6,.c (.row 37 y.1 0 s.2.length)),(7,.c (I i)),(8,.c (.row 45 y.2.1 0 s.1.length)),(9,.c (I x.ae.length)),(54,.c (.bool false))],o:=[(4,⟨c.u4,4,true,true,[oL]⟩),(5,⟨c.u6,4,true,true,[G2 c]⟩),(37,⟨y.1,1,true,false,aA s.2⟩),(45,⟨y.2.1,4,true,false,s.1.map ah⟩),(11900,⟨c.z,1,false,false,aA c.gone⟩),(13500,⟨c.w,7,true,false,(jF c.L i).map af⟩)],n:=y.2.2}
theorem E5(kc:bf.k M)(k:Nat)(c:x8)(i:Nat)(hi:i<c.L.length)(s0:List Int)(hs0:s0.length≤4194304)(hx:c.L[i].ae.length≤1048576)(hk:c.L[i].ae.length<k)(y:Nat×Nat×Nat):
  ∃z,fx (cz (run M) k bH.l1) k (DE c i 0 ([],s0) y)=some (.exit 2,Hi c i c.L[i] (c.L[i].ae.foldl nc ([],s0)) z):=by
 have el:((jF c.L i).map af).length=c.L.length:=by simp[sw]
 have a0:∀hh,((jF c.L i).map af)[i]'hh=af c.L[i]:=by
  intro hh;simp only[fJ,xJ c.L i hi]
 obtain⟨x,hxx⟩:∃x,x=c.L[i]:=⟨_,rfl⟩
 rw[←hxx] at a0 hx hk ⊢;have er:(x.ae.map ah).length=x.ae.length:=by simp
 obtain⟨g,hr⟩:=jB (f:=cz (run M) k bH.l1) x.ae nc (fun i s=>s.1.length≤i∧s.2.length≤4194304+i) (DE c i) 2 (Hi c i x)
  (fun i h s hs=>by have:=yw s x.ae[i];omega)
  (fun j hj s y hs=>by
   obtain⟨v,v4,n⟩:=y;obtain⟨l,sn⟩:=s;simp only at hs;have e5:=cA (i:=j) (by omega);have e6:l.length+1≤4294967296:=by omega
   have e7:sn.length+1≤4294967296:=by omega
   have e9:(l.map ah).length=l.length:=by simp
   have e10:=aS sn;have h1:=bf.ak kc sn x.ae[j].gid (by omega);have a1:∀hh,(x.ae.map ah)[j]'hh=ah x.ae[j]:=by intro hh;simp
   simp only[aE];unfold nc;by_cases q:x.ae[j].gid∈sn
   ·rw[decide_eq_true q] at h1;simp only[q,if_true,DE,G2];simp only[af,ae,ints,ah,jf] at a0 a1 h1 ⊢;generalize x.ae.map ah=rx at*;generalize aA x.gone=rxg at*;generalize aA sn=rs at*;generalize (jF c.L i).map af=rd at*;generalize l.map ah=rl at*;generalize x.ae[j].flags.map aO=rf at*;simp (maxSteps:=9^9) [bH.l1,setAt,hi,hj,h1,e5,e10,er,el,a0,a1,ab]
   ·rw[decide_eq_false q] at h1;simp only[q,if_false,DE,G2,o_,cg,bu,bS,aD,bM];simp only[af,ae,ints,ah,jf] at a0 a1 h1 ⊢;generalize x.ae.map ah=rx at*;generalize aA x.gone=rxg at*;generalize aA sn=rs at*;generalize (jF c.L i).map af=rd at*;generalize l.map ah=rl at*;generalize x.ae[j].flags.map aO=rf at*;simp (maxSteps:=9^9) [bH.l1,setAt,hi,hj,h1,e5,e6,e7,e9,e10,er,el,a0,a1,ab])
  (fun s y hs=>by
   obtain⟨v,v4,n⟩:=y;obtain⟨l,sn⟩:=s;simp only[aE,DE,Hi,G2];simp only[af,ae,ints] at a0 ⊢;generalize x.ae.map ah=rx at*;generalize aA x.gone=rxg at*;generalize aA sn=rs at*;generalize (jF c.L i).map af=rd at*;generalize l.map ah=rl at*;simp (maxSteps:=9^9) [bH.l1,hi,er,el,a0]) ([],s0) ⟨by simp,by simp only;omega⟩
 exact⟨_,gz (hr y) (by omega)⟩
structure LM where
 i:Nat
 seen:List Int
 v:Nat
 n:Nat
def ya(c:x8)(s:LM):St:={t:=[(4,.c (.ptr 4 c.u4 0 0)),(5,.c (.ptr 5 c.u6 0 0)),(6,.c (.row 37 s.v 0 s.seen.length)),(7,.c (I s.i))],o:=[(4,⟨c.u4,4,true,true,[oL]⟩),(5,⟨c.u6,4,true,true,[G2 c]⟩),(37,⟨s.v,1,true,false,aA s.seen⟩),(11900,⟨c.z,1,false,false,aA c.gone⟩),(13500,⟨c.w,7,true,false,(jF c.L s.i).map af⟩)],n:=s.n}
def E7(c:x8)(s:LM):St:={t:=[(4,.c (.ptr 4 c.u4 0 0)),(5,.c (.ptr 5 c.u6 0 0)),(6,.c (.row 37 s.v 0 s.seen.length)),(7,.c (I s.i)),(42,.c (.bool false))],o:=[(4,⟨c.u4,4,true,true,[oL]⟩),(5,⟨c.u6,4,true,true,[G2 c]⟩),(37,⟨s.v,1,true,false,aA s.seen⟩),(11900,⟨c.z,1,false,false,aA c.gone⟩),(13500,⟨c.w,7,true,false,(jF c.L s.i).map af⟩)],n:=s.n}
structure Nb (c:x8) (s:LM):Prop where
 i:s.i≤c.L.length
 mem:∀g,g∈s.seen↔g∈ku c.L s.i
 len:s.seen.length≤100*s.i
theorem E6(kc:bf.k M)(k:Nat)(hk:200≤k)(c:x8)(hL:c.L.length≤1000)(hb:∀b∈c.L,b.ae.length≤100∧(fk b.ae).Nodup)(s:LM)(hI:Nb c s)(hs:s.i<c.L.length):
  ∃s',cz (run M) k bH.l0 (ya c s)=some (.normal,ya c s')∧Nb c s'∧s'.i=s.i+1:=by
 obtain⟨i,sn,v,n⟩:=s;obtain⟨_,hm,hl⟩:=hI;simp only at hs hm hl;obtain⟨hx,hnd⟩:=hb _ (ax hs);obtain⟨⟨v5,v4,n4⟩,r1⟩:=E5 kc k c i hs sn (by omega) (by omega) (by omega) (v,n+80,n+128);obtain⟨f1,f2⟩:=s9 sn c.L[i].ae [] sn hnd (fun _ _=>Iff.rfl) (fun _ h=>h);rw[List.nil_append] at f1;have f3:(c.L[i].ae.foldl nc ([],sn)).1.length≤c.L[i].ae.length∧(c.L[i].ae.foldl nc ([],sn)).2.length≤sn.length+c.L[i].ae.length:=by
  have key:∀ms:List bj,(ms.foldl nc ([],sn)).1.length≤ms.length∧(ms.foldl nc ([],sn)).2.length≤sn.length+ms.length:=fun ms=>
   uL ms nc (fun j s=>s.1.length≤j∧s.2.length≤sn.length+j) (fun j h s hs=>by have:=yw s ms[j];omega) ([],sn) ⟨by simp,by simp⟩
  exact key _
 have hded:nY c.L i c.L[i]={c.L[i] with ae:=(c.L[i].ae.foldl nc ([],sn)).1}:=by
  unfold nY;rw[f1];congr 1;apply List.filter_congr;intro m _;congr 1;exact decide_eq_decide.2 (hm m.gid).symm
 have t3:(jF c.L (i+1)).map af=((jF c.L i).map af).set i (af (nY c.L i c.L[i])):=by rw[xI c.L i hs,iE]
 rw[hded] at t3;have e5:=cA (i:=i) (by omega);have ez:((0:Nat):Int)=0:=rfl;have el:((jF c.L i).map af).length=c.L.length:=by simp[sw]
 have a1:∀hh,((jF c.L i).map af)[i]'hh=af c.L[i]:=by
  intro hh;simp only[fJ,xJ c.L i hs]
 have hh:∃n',cz (run M) k bH.l0 (ya c ⟨i,sn,v,n⟩)=some (.normal,ya c ⟨i+1,(c.L[i].ae.foldl nc ([],sn)).2,v5,n'⟩):=by
  simp only[DE,Hi,ez,bS,dy] at r1;simp only[ya,t3];clear t3 hded f1 f2 hm;have efl:((c.L[i].ae.foldl nc ([],sn)).1.map ah).length=(c.L[i].ae.foldl nc ([],sn)).1.length:=by simp
  generalize c.L[i].ae.foldl nc ([],sn)=F at*;obtain⟨fl,fs⟩:=F;simp only[af,ae,ints,G2] at r1 a1 efl ⊢;generalize fl.map ah=rl at*;generalize aA fs=rfs at*;generalize aA sn=rs at*;generalize (jF c.L i).map af=rd at*;generalize c.L[i]=x at*;generalize c.L.length=N at*;generalize x.ae.map ah=rx at*;generalize aA x.gone=rg at*;generalize aA c.gone=rcg at*;simp (maxSteps:=9^9) [bH.l0,setAt,hs,r1,e5,el,a1,efl,ab]
 obtain⟨n',hh⟩:=hh;refine⟨_,hh,⟨hs,fun g=> ?_, ?_⟩,rfl⟩
 ·simp only;rw[f2,ta c.L i hs,iG,hm]
 ·simp only;omega
theorem Hj(k:Nat)(c:x8)(s:LM)(hs:¬s.i<c.L.length):
  ∃n',cz (run M) k bH.l0 (ya c s)=some (.exit 0,E7 c {s with n:=n'}):=by
 obtain⟨i,sn,v,n⟩:=s;simp only at hs;simp only[ya,E7,G2];generalize (jF c.L i).map af=rd at*;simp (maxSteps:=9^9) [bH.l0,hs]
theorem ti{l:List bq}{g:Int}:kY l g=none↔∀m∈l,m.gid≠g:=by
 unfold kY;rw[List.find?_eq_none];simp
theorem y5{l:List bq}(h:(l.map (·.gid)).Nodup){m:bq}(hm:m∈l):kY l m.gid=some m:=by
 induction l with
 |nil=>simp at hm
 |cons x l ih=>
  rw[bu,List.nodup_cons] at h;unfold kY at ih ⊢;rw[List.find?_cons];rcases List.mem_cons.1 hm with rfl|hm
  ·simp
  ·have:x.gid≠m.gid:=fun e=>h.1 (by rw[e];exact iD hm)
   simp only[this,decide_false];exact ih h.2 hm
theorem uI{a b:List bq}{g:Int}(h:g∈fz a∨g∈fz b):(mn a b g).gid=g:=by
 unfold mn;cases h1:kY a g with
 |some x=>
  cases h2:kY b g with
  |some y=>simp only[oE];exact(lJ h1).2
  |none=>exact(lJ h1).2
 |none=>
  cases h2:kY b g with
  |some y=>exact(lJ h2).2
  |none=>
   exfalso;rw[ti] at h1 h2;rcases h with h|h
   ·obtain⟨m,hm,e⟩:=List.mem_map.1 h;exact h1 m hm e
   ·obtain⟨m,hm,e⟩:=List.mem_map.1 h;exact h2 m hm e
theorem Gw{a b:List bq}(ha:(fz a).Nodup)(hb:(fz b).Nodup){m:bq}:m∈oG a b↔(m.gid∈fz a∨m.gid∈fz b)∧m=mn a b m.gid:=by
 simp only[oG,kV,iG,ox,fO];constructor
 ·rintro (⟨x,hx,rfl⟩|⟨hm,hn⟩)
  ·have h1:=y5 ha hx;have hg:x.gid∈fz a:=iD hx;cases h2:kY b x.gid with
   |some y=>
    simp only[oE];refine⟨.inl hg, ?_⟩;simp only[mn,h1,h2]
   |none=>
    simp only;refine⟨.inl hg, ?_⟩;simp only[mn,h1,h2]
  ·have h1:=y5 hb hm;simp only[ch] at hn;refine⟨.inr (iD hm), ?_⟩;simp only[mn,h1,hn]
 ·rintro ⟨h,e⟩;cases h1:kY a m.gid with
  |some x=>
   left;obtain⟨k1,k2⟩:=lJ h1;refine⟨x,k1, ?_⟩;rw[e,k2];simp only[mn,h1];cases h2:kY b m.gid<;>rfl
  |none=>
   right;cases h2:kY b m.gid with
   |none=>
    exfalso;rw[ti] at h1 h2;rcases h with h|h
    ·obtain⟨m',hm,e⟩:=List.mem_map.1 h;exact h1 m' hm e
    ·obtain⟨m',hm,e⟩:=List.mem_map.1 h;exact h2 m' hm e
   |some y=>
    refine⟨?_,by simp⟩;have:m=y:=by rw[e];simp only[mn,h1,h2]
    rw[this];exact(lJ h2).1
theorem CC{a b:List bq}(ha:(fz a).Nodup)(hb:(fz b).Nodup):(fz (oG a b)).Nodup:=by
 have e1:fz (kV a b)=fz a:=by
  unfold fz kV;rw[List.map_map];apply List.map_congr_left;intro m _;simp only[Function.comp];split
  ·exact oE _ _
  ·rfl
 unfold oG;rw[fz,cg];change (fz _++fz _).Nodup;rw[e1,List.nodup_append];refine⟨ha, ?_, ?_⟩
 ·exact hb.sublist (List.Sublist.map _ List.filter_sublist)
 ·intro x hx y hy e;subst e;obtain⟨m,hm,rfl⟩:=List.mem_map.1 hy;rw[fO] at hm;simp only[ch,ti] at hm;obtain⟨m',hm',e⟩:=List.mem_map.1 hx;exact hm.2 m' hm' e
theorem Hq{a b:List bq}(G:List Int)(ha:(fz a).Nodup)(hb:(fz b).Nodup):
  fc (·.gid) ((oG a b).filter fun m=> !decide (m.gid∈G))=((aQ (fz a) (fz b)).filter fun g=> !decide (g∈G)).map (mn a b):=by
 refine uW (k:=fun m:bq=>m.gid) ?_ ?_ fun m=> ?_
 ·refine pY (oy _) ?_;have hp:=(oC (k:=fun m:bq=>m.gid) ((oG a b).filter fun m=> !decide (m.gid∈G))).map (fun m:bq=>m.gid);rw[hp.nodup_iff];exact(CC ha hb).sublist (List.Sublist.map _ List.filter_sublist)
 ·rw[Bp,List.pairwise_map];have h:=(nV (fz a) (fz b)).filter (fun g=> !decide (g∈G));refine List.Pairwise.imp_of_mem ?_ h;intro x y hx hy hxy;rw[fO,iQ] at hx hy;rw[uI hx.1,uI hy.1];exact hxy
 ·rw[qC,fO,Gw ha hb,ox];constructor
  ·rintro ⟨⟨h1,h2⟩,h3⟩;exact⟨m.gid,List.mem_filter.2 ⟨(iQ _ _ _).2 h1,h3⟩,h2.symm⟩
  ·rintro ⟨g,hg,rfl⟩;rw[fO,iQ] at hg;have:=uI hg.1;rw[this];exact⟨⟨hg.1,rfl⟩,hg.2⟩
theorem zE{a b:a7}(ha:mz a)(hb:mz b)(G:List Int):lj a.boxes b.boxes G=lI a.boxes b.boxes G:=by
 have nd:∀{s:a7},mz s→(fz s.boxes).Nodup:=fun {s} h=>List.pairwise_map.2 (h.Jq.imp fun q=>by omega)
 unfold lj lI;rw[Hq G (nd ha) (nd hb)]
theorem Aa(kc:bf.k M)(k:Nat)(hk:1200≤k)(c:x8)(hL:c.L.length≤1000)(hb:∀b∈c.L,b.ae.length≤100∧(fk b.ae).Nodup)(v n:Nat):
  ∃s',fx (cz (run M) k bH.l0) k (ya c ⟨0,[],v,n⟩)=some (.exit 0,E7 c s')∧s'.i=c.L.length:=by
 obtain⟨r,hr,s',rfl,hi⟩:=lN (f:=cz (run M) k bH.l0) (ya c) (Nb c) (fun s=>c.L.length-s.i) (fun r=>∃s',r=(.exit 0,E7 c s')∧s'.i=c.L.length)
  (fun s hs=>by
   by_cases q:s.i<c.L.length
   ·left;obtain⟨s',hh,hI,hi⟩:=E6 kc k (by omega) c hL hb s hs q;exact⟨_,hh,hI,by omega⟩
   ·right;obtain⟨n',hh⟩:=Hj (M:=M) k c s q;have:=hs.i;exact⟨_,hh,by simp,_,rfl,by simp only;omega⟩) k ⟨0,[],v,n⟩ ⟨by simp,fun g=>by simp[ku],by simp⟩ (by simp only;omega)
 exact⟨s',hr,hi⟩
theorem bH.ak(h:bH.k M)(a b:a7)(ha:mz a)(hb:mz b):
  run M 446 [.a (aq a),.a (aq b)] []=some (.a [I a.eJ,I (Max.max a.time b.time),.sl true 7 ((dm a b).boxes.map af),.sl false 1 (aA (dm a b).gone)],[]):=by
 obtain⟨h0,kg,kin,kb⟩:=h;have hga:=ha.gone;have hgb:=hb.gone;have hgj:=kF a.gone b.gone;have h1:=aT.ak kg a.gone b.gone (by omega) (by omega);have h2:=aW.ak kb a.boxes b.boxes (aQ a.gone b.gone) ha.boxes hb.boxes (by omega);rw[←zE ha hb] at h2;have hLl:=po ha.boxes hb.boxes (aQ a.gone b.gone);have hLs:=lU ha.boxes hb.boxes (aQ a.gone b.gone);simp only[dm];have eg:=aS (aQ a.gone b.gone);generalize aQ a.gone b.gone=G at*;generalize lj a.boxes b.boxes G=L at*;have hLb:∀x∈L,x.ae.length≤100∧(fk x.ae).Nodup:=fun x hx=>⟨by have:=(hLs x hx).m;omega,(hLs x hx).d⟩
 obtain⟨⟨i1,sn1,v1,n1⟩,r1,hi1⟩:=Aa kin 1200 (by omega) ⟨2000032,2000208,2000480,2000176,a.eJ,b.time,G,L⟩ (by simp only;omega) hLb 2000528 2000576;obtain⟨⟨i2,sn2,v2,n2⟩,r2,hi2⟩:=Aa kin 1200 (by omega) ⟨2000032,2000208,2000416,2000176,a.eJ,a.time,G,L⟩ (by simp only;omega) hLb 2000464 2000512;simp only at hi1 hi2;subst hi1;subst hi2;refine au (b:=bH.m) h0 ⟨1200, ?_⟩;have el:(L.map af).length=L.length:=by simp
 have el2:((vX L).map af).length=L.length:=by simp[vX]
 have ez:((0:Nat):Int)=0:=rfl;have em:=zx a.time b.time;simp only[ya,E7,G2,xH,yX,ez,pq,dy] at r1 r2;generalize hmx:Max.max a.time b.time=mx at*;clear hmx hLs hLb;generalize (vX L).map af=RD at*;generalize L.map af=RL at*;generalize L.length=N at*;simp only[aq,boxes,ints] at*;generalize aA G=rg at*;generalize G.length=ng at*;generalize a.boxes.map af=ra at*;generalize b.boxes.map af=rb at*;generalize aA a.gone=ga at*;generalize aA b.gone=gb at*;by_cases c:a.time<b.time
 ·rw[if_pos c] at em;subst em;simp (maxSteps:=9^9) [ba,bH.m,bH.b,aa,setAt,h1,h2,r1,c,el,el2,eg,ab]
 ·rw[if_neg c] at em;subst em;simp (maxSteps:=9^9) [ba,bH.m,bH.b,aa,setAt,h1,h2,r2,c,el,el2,eg,ab]
def ly(a b:a7):Bool:=a8 a&&a8 b&&a8 (dm a b)
theorem sS{a b:a7}(ha:mz a)(hb:mz b):gr (dm a b):=by
 have h1:=kF a.gone b.gone;have h2:=ha.gone;have h3:=hb.gone;have h4:=po ha.boxes hb.boxes (aQ a.gone b.gone);refine⟨by simp only[dm,vX,List.length_mapIdx];omega,by simp only[dm];omega,Gh _ (lU ha.boxes hb.boxes (aQ a.gone b.gone)), ?_⟩;have hs:=Gh (lj a.boxes b.boxes (aQ a.gone b.gone)) (lU ha.boxes hb.boxes (aQ a.gone b.gone));have key:∀l:List bq,(∀x∈l,x.ae.length≤20)→(l.flatMap bZ).length≤20*l.length:=by
  intro l
  induction l with
  |nil=>intro _;simp
  |cons x l ih=>
   intro h;have h1:=ih fun y hy=>h y (bo _ hy)
   have h2:=h x (bl ..);simp only[cj,aD,bZ,eM,bV] at h1 ⊢;omega
 have hk:=key (dm a b).boxes fun x hx=>by
  obtain⟨i,hi,rfl⟩:=bQ hx;simp only[dm,vX,List.length_mapIdx] at hi;simp only[dm,vX,List.getElem_mapIdx,nY];have S:=lU ha.boxes hb.boxes (aQ a.gone b.gone) _ (ax hi);exact Nat.le_trans (bG _ _) S.m
 have hl:(dm a b).boxes.length≤10:=by simp only[dm,vX,List.length_mapIdx];exact h4
 omega
theorem fe.ak(h:fe.k M)(a b:a7)(ha:gr a)(hb:gr b):run M 433 [.a (aq a),.a (aq b)] []=some (.c (.bool (ly a b)),[]):=by
 obtain⟨h0,ks,kj⟩:=h;have h1:=aK.ak ks a ha;have h2:=aK.ak ks b hb;refine au (b:=fe.m) h0 ⟨0, ?_⟩;unfold ly;cases c1:a8 a with
 |false=>
  rw[c1] at h1;simp only[aq,boxes,ints] at*;generalize a.boxes.map af=ra at*;generalize b.boxes.map af=rb at*;generalize aA a.gone=ga at*;generalize aA b.gone=gb at*;simp (maxSteps:=9^9) [ba,fe.m,fe.b,aa,h1,ab]
 |true=>
  rw[c1] at h1;cases c2:a8 b with
  |false=>
   rw[c2] at h2;simp only[aq,boxes,ints] at*;generalize a.boxes.map af=ra at*;generalize b.boxes.map af=rb at*;generalize aA a.gone=ga at*;generalize aA b.gone=gb at*;simp (maxSteps:=9^9) [ba,fe.m,fe.b,aa,h1,h2,ab]
  |true=>
   rw[c2] at h2;have h3:=bz.ak kj a b (ev c1) (ev c2);have h4:=aK.ak ks _ (sS (ev c1) (ev c2));have e1:(dm a b).eJ=a.eJ:=rfl;have e2:(dm a b).time=Max.max a.time b.time:=rfl;simp only[aq,boxes,ints,e1,e2] at*;generalize Max.max a.time b.time=mx at*;generalize a8 (dm a b)=w at*;generalize (dm a b).boxes.map af=rj at*;generalize aA (dm a b).gone=gj at*;generalize a.boxes.map af=ra at*;generalize b.boxes.map af=rb at*;generalize aA a.gone=ga at*;generalize aA b.gone=gb at*;simp (maxSteps:=9^9) [ba,fe.m,fe.b,aa,h1,h2,h3,h4,ab]
theorem fb.ak(h:fb.k M)(a b:a7)(ha:gr a)(hb:gr b):run M 432 [.a (aq a),.a (aq b)] []=some (.c (.bool (ly a b)),[]):=by
 obtain⟨h0,ks,kj⟩:=h;have h1:=aJ.ak ks a ha;have h2:=aJ.ak ks b hb;refine au (b:=fb.m) h0 ⟨0, ?_⟩;unfold ly;cases c1:a8 a with
 |false=>
  rw[c1] at h1;simp only[aq,boxes,ints] at*;generalize a.boxes.map af=ra at*;generalize b.boxes.map af=rb at*;generalize aA a.gone=ga at*;generalize aA b.gone=gb at*;simp (maxSteps:=9^9) [ba,fb.m,fb.b,aa,h1,ab]
 |true=>
  rw[c1] at h1;cases c2:a8 b with
  |false=>
   rw[c2] at h2;simp only[aq,boxes,ints] at*;generalize a.boxes.map af=ra at*;generalize b.boxes.map af=rb at*;generalize aA a.gone=ga at*;generalize aA b.gone=gb at*;simp (maxSteps:=9^9) [ba,fb.m,fb.b,aa,h1,h2,ab]
  |true=>
   rw[c2] at h2;have h3:=bH.ak kj a b (ev c1) (ev c2);have h4:=aJ.ak ks _ (sS (ev c1) (ev c2));have e1:(dm a b).eJ=a.eJ:=rfl;have e2:(dm a b).time=Max.max a.time b.time:=rfl;simp only[aq,boxes,ints,e1,e2] at*;generalize Max.max a.time b.time=mx at*;generalize a8 (dm a b)=w at*;generalize (dm a b).boxes.map af=rj at*;generalize aA (dm a b).gone=gj at*;generalize a.boxes.map af=ra at*;generalize b.boxes.map af=rb at*;generalize aA a.gone=ga at*;generalize aA b.gone=gb at*;simp (maxSteps:=9^9) [ba,fb.m,fb.b,aa,h1,h2,h3,h4,ab]
end Mx
namespace Mx
open Go
def mb(l:List bq)(g:Int):List Int:=match kY l g with|some x=>fk x.ae|none=>[]
def gb(l:List bq)(g:Int):List Int:=match kY l g with|some x=>x.gone|none=>[]
def raw(a b:List bq)(G:List Int):List bq:=((aQ (fz a) (fz b)).filter fun g=> !decide (g∈G)).map (mn a b)
theorem vm:∀(l acc:List bq) (i:Nat) (h:i<l.length),∃nm,(l.foldl oT acc)[acc.length+i]? =some {l[i] with name:=nm}
 |x::l,acc,i,h=>by
  rw[eN];have hs:oT acc x=acc++[pV acc x]:=rfl;cases i with
  |zero=>
   have hp:∀(l acc:List bq) (k:Nat),k<acc.length→(l.foldl oT acc)[k]? =acc[k]? :=by
    intro l
    induction l with
    |nil=>intro acc k _;rfl
    |cons y l ih=>
     intro acc k hk;rw[eN,ih (oT acc y) k (by rw[qG];simp;omega),qG,List.getElem?_append_left hk]
   rw[hp l _ _ (by rw[hs];simp),hs];refine⟨(pV acc x).name, ?_⟩;simp only[Nat.add_zero,List.getElem?_append_right (Nat.le_refl _),Nat.sub_self,List.getElem?_cons_zero,List.getElem_cons_zero];unfold pV;split<;>rfl
  |succ i=>
   have:=vm l (oT acc x) i (by simpa using h);rw[hs] at this;simpa [hs,Nat.add_assoc,Nat.add_comm 1] using this
theorem JJ(l:List bq)(i:Nat)(h:i<l.length):∃nm,(qw l)[i]'(by rw[lB];exact h)={l[i] with name:=nm}:=by
 obtain⟨nm,e⟩:=vm l [] i h;refine⟨nm, ?_⟩;simp only[dy,Nat.zero_add] at e;have e2:(qw l)[i]? =some {l[i] with name:=nm}:=e
 rw[cw (by rw[lB];exact h)] at e2;exact Option.some.inj e2
theorem yC{L:List bq}{i:Nat}{m:Int}:m∈ku L i↔∃k,∃h:k<L.length,k<i∧m∈fk L[k].ae:=by
 unfold ku;rw[jl];constructor
 ·rintro ⟨b,hb,hm⟩;obtain⟨k,hk,rfl⟩:=bQ hb;simp only[gd] at hk;rw[List.getElem_take] at hm;exact⟨k,by omega,by omega,hm⟩
 ·rintro ⟨k,hk,hki,hm⟩;refine⟨L[k], ?_,hm⟩;have:k<(L.take i).length:=by simp;omega
  have e:(L.take i)[k]=L[k]:=by rw[List.getElem_take]
  rw[←e];exact ax this
theorem Gi{L:List bq}{i:Nat}(h:i<L.length){m:Int}:m∈fk ((vX L)[i]'(by simpa [vX] using h)).ae↔m∈fk L[i].ae∧¬m∈ku L i:=by
 simp only[vX,List.getElem_mapIdx,nY,fk,ox,fO,Bool.not_eq_true',decide_eq_false_iff_not];constructor
 ·rintro ⟨y,⟨h1,h2⟩,rfl⟩;exact⟨⟨y,h1,rfl⟩,h2⟩
 ·rintro ⟨⟨y,h1,rfl⟩,h2⟩;exact⟨y,⟨h1,h2⟩,rfl⟩
structure Ng (a b:List bq) (G:List Int) (L:List bq):Prop where
 len:L.length=(raw a b G).length
 at_:∀i (h:i<L.length),∃hr:i<(raw a b G).length,L[i].gid=(raw a b G)[i].gid∧L[i].gone=(raw a b G)[i].gone∧
  ∀m,m∈fk L[i].ae↔m∈fk (raw a b G)[i].ae∧¬m∈ku (raw a b G) i
 nd:(∀x∈raw a b G,(fk x.ae).Nodup)→∀i (h:i<L.length),(fk L[i].ae).Nodup
theorem No(a b:List bq)(G:List Int):Ng a b G (vX (lI a b G)):=by
 have hl:(vX (lI a b G)).length=(raw a b G).length:=by simp only[vX,List.length_mapIdx];exact lB _
 have hS:∀i (h:i<(raw a b G).length),∃nm,(lI a b G)[i]'(by rw[show (lI a b G).length=_ from lB _];exact h)={(raw a b G)[i] with name:=nm}:=fun i h=>JJ (raw a b G) i h
 have hlS:(lI a b G).length=(raw a b G).length:=lB _;have hseen:∀i m,m∈ku (lI a b G) i↔m∈ku (raw a b G) i:=by
  intro i m;rw[yC,yC];constructor
  ·rintro ⟨k,h1,h2,h3⟩;obtain⟨nm,e⟩:=hS k (by omega);rw[e] at h3;exact⟨k,by omega,h2,h3⟩
  ·rintro ⟨k,h1,h2,h3⟩;obtain⟨nm,e⟩:=hS k h1;exact⟨k,by omega,h2,by rw[e];exact h3⟩
 refine⟨hl,fun i h=> ?_,fun hn i h=> ?_⟩
 ·have hr:i<(raw a b G).length:=by omega
  obtain⟨nm,e⟩:=hS i hr;refine⟨hr, ?_, ?_,fun m=> ?_⟩
  ·simp only[vX,List.getElem_mapIdx,nY,e]
  ·simp only[vX,List.getElem_mapIdx,nY,e]
  ·rw[Gi (by omega),hseen,e]
 ·have hr:i<(raw a b G).length:=by omega
  obtain⟨nm,e⟩:=hS i hr;have:=hn _ (ax hr);simp only[vX,List.getElem_mapIdx,nY,e,fk] at this ⊢;exact this.sublist (List.Sublist.map _ List.filter_sublist)
end Mx
namespace Mx
open Go
variable {M:Nat→Option Body}
theorem iR.ak(h:iR.k M)(b:bq)(g:Int):run M 199 [.a (af b),.c (.vp [I g] 0)] []=some (.c (.bool (decide (b.gid=g))),[]):=by
 refine au (b:=iR.m) h ⟨0, ?_⟩;simp (maxSteps:=9^9) [ba,iR.m,iR.b,aa,af]
theorem gA.ak(h:gA.k M)(s:a7)(g:Int)(hl:s.boxes.length≤1048576):run M 95 [.a (aq s),.c (I g)] []=some (.c (I (dA (mI s.boxes g))),[]):=by
 have h1:=ay.gen h.2.2 (fun b=>iR.ak h.2.1 b g) s.boxes hl;refine au (b:=gA.m) h.1 ⟨0, ?_⟩;unfold mI;simp only[aq,boxes,ints] at h1 ⊢;generalize s.boxes.map af=r at*;generalize aA s.gone=rg at*;simp (maxSteps:=9^9) [ba,gA.m,gA.b,aa,h1]
end Mx
namespace Mx
open Go
def C5(kt ko:List Nat)(n:Nat):Option (List (Nat×V)×List (Nat×Ob))→Option (Out×St)
 |none=>none
 |some r=>some (.normal,{t:=keep kt r.1,o:=keep ko r.2,n:=n})
theorem B6(kt ko:List Nat)(n:Nat)(t:List (Nat×V))(o:List (Nat×Ob)):C5 kt ko n (some (t,o))=some (.normal,{t:=keep kt t,o:=keep ko o,n:=n}):=rfl
theorem B7(kt ko:List Nat)(n:Nat):C5 kt ko n none=none:=rfl
theorem Iy(cf:cI)(k:Nat)(s:St)(ops:List og)(kt ko:List Nat):cz cf k (.ai ops kt ko) s=C5 kt ko (s.n+16*ops.length) (steps cf s.n 0 ops s.t s.o):=by
 simp only[cz];cases steps cf s.n 0 ops s.t s.o<;>rfl
theorem F_(cf:cI)(k:Nat)(s:St)(ops:List og)(anc:List (List Nat))(kt ko:List Nat):cz cf k (.gV ops anc kt ko) s=C5 kt ko (s.n+16*ops.length) (kf cf s.n 0 ops anc s.t s.o []):=by
 simp only[cz];cases kf cf s.n 0 ops anc s.t s.o []<;>rfl
theorem F8(cf:cI)(k:Nat)(s:St):cz cf k .skip s=some (.normal,s):=rfl
theorem Iv(cf:cI)(k:Nat)(s:St)(a b:C):cz cf k (.seq a b) s=match cz cf k a s with|some (.normal,s')=>cz cf k b s'|r=>r:=rfl
theorem Gd(cf:cI)(k:Nat)(s:St)(c:Nat)(a b:C):cz cf k (.cond (.t c) a b) s=match qa s.t (.t c) with|some true=>cz cf k a s|some false=>cz cf k b s|none=>none:=rfl
theorem D5(cf:cI)(k:Nat)(s:St)(id:Nat)(a:C):cz cf k (.block id a) s=match cz cf k a s with|some (.exit id',s')=>some (if id'=id then(.normal,s') else(.exit id',s'))|r=>r:=rfl
theorem Gb(cf:cI)(k:Nat)(s:St)(a:C):cz cf k (.loop a) s=fx (cz cf k a) k s:=rfl
theorem Gc(cf:cI)(k:Nat)(s:St)(id:Nat):cz cf k (.exit id) s=some (.exit id,s):=rfl
theorem Ix(cf:cI)(k:Nat)(s:St):cz cf k .ret s=some (.ret,s):=rfl
theorem F9(cf:cI)(k:Nat)(s:St)(ids:List Nat)(a:C):cz cf k (.shut ids a) s=cz cf k a {s with o:=uz ids s.o}:=rfl
theorem JW(n i:Nat):(lr n).contains i=decide (i<n):=by
 simp only[lr,List.contains_eq_mem,List.mem_range]
theorem HO(n i:Nat)(l:List Nat):(lr n++l).contains i=(decide (i<n)||l.contains i):=by
 simp only[lr,List.contains_eq_mem,iG,List.mem_range,Bool.decide_or]
def Lr:Option Ob→List Nat
 |some b=>if b.bx then b.rows.flatMap fun r=>r.flatMap qh else []
 |none=>[]
def D2(o:List (Nat×Ob)):List Nat→List Nat
 |[]=>[]
 |id::r=>Lr (get o id)++D2 o r
def AS(o:List (Nat×Ob)):List T→List Nat
 |[]=>[]
 |t::ts=>(qh t++D2 o (qh t))++AS o ts
def Il(o:List (Nat×Ob)):Option V→List Nat
 |some (.c t)=>qh t++D2 o (qh t)
 |some (.a ts)=>AS o ts
 |_=>[]
def wv(t:List (Nat×V))(o:List (Nat×Ob)):List Nat→List Nat
 |[]=>[]
 |x::xs=>Il o (get t x)++wv t o xs
theorem zL(o:List (Nat×Ob)):∀l,l.flatMap (pv o)=D2 o l
 |[]=>rfl
 |x::l=>by
  rw[cj,zL o l,D2];congr 1
theorem AR(o:List (Nat×Ob)):∀ts:List T,(ts.flatMap fun t=>qh t++(qh t).flatMap (pv o))=AS o ts
 |[]=>rfl
 |t::ts=>by rw[cj,AR o ts,AS,zL]
theorem yr(t:List (Nat×V))(o:List (Nat×Ob)):∀l:List Nat,(l.flatMap fun x=>match get t x with|some v=>oY o v|none=>[])=wv t o l
 |[]=>rfl
 |x::l=>by
  rw[cj,yr t o l,wv];congr 1;cases h:get t x with
  |none=>rfl
  |some v=>
   cases v with
   |c t=>simp only[oY,Il,zL]
   |a ts=>simp only[oY,Il,AR]
   |_=>rfl
theorem EX(t:List (Nat×V))(o:List (Nat×Ob))(m:MO):lL t o m=wv t o m.Cd:=yr t o _
attribute [simp] Lr D2 AS Il wv
def E8(t:List (Nat×V))(o:List (Nat×Ob))(d:Option Nat):G1→Option (List (Nat×V)×List (Nat×Ob))
 |none=>none
 |some r=>some (oH t d r.1,r.2++o)
theorem BG(t:List (Nat×V))(o:List (Nat×Ob))(d:Option Nat)(v:V)(u:List (Nat×Ob)):E8 t o d (some (v,u))=some (oH t d v,u++o):=rfl
theorem BH(t:List (Nat×V))(o:List (Nat×Ob))(d:Option Nat):E8 t o d none=none:=rfl
theorem step_eq(cf:cI)(n i:Nat)(m:og)(t:List (Nat×V))(o:List (Nat×Ob)):step cf n i m t o=match wanted t m.guard with
  |some true=>E8 t o m.dst (act cf (n+16*i) (m.dst.getD 0) t o m.op)
  |some false=>some (oH t m.dst .undef,o)
  |none=>none:=by
 unfold step;cases wanted t m.guard with
 |none=>rfl
 |some b=>cases b with
  |false=>rfl
  |true=>simp only[];cases act cf (n+16*i) (m.dst.getD 0) t o m.op<;>rfl
def E9(t:List (Nat×V))(d:Option Nat):G1→Option (List (Nat×V))
 |none=>none
 |some r=>some (oH t d r.1)
theorem BI(t:List (Nat×V))(d:Option Nat)(r:V×List (Nat×Ob)):E9 t d (some r)=some (oH t d r.1):=rfl
theorem BJ(t:List (Nat×V))(d:Option Nat):E9 t d none=none:=rfl
theorem E_(cf:cI)(n i:Nat)(m:og)(t:List (Nat×V))(o:List (Nat×Ob)):mL cf n i m t o=match wanted t m.guard with
  |some true=>E9 t m.dst (od cf (n+16*i) (m.dst.getD 0) t o m.op)
  |some false=>some (oH t m.dst .undef)
  |none=>none:=by
 unfold mL;cases wanted t m.guard with
 |none=>rfl
 |some b=>cases b with
  |false=>rfl
  |true=>simp only[];cases od cf (n+16*i) (m.dst.getD 0) t o m.op<;>rfl
def p_{α:Type}:Nat→List α→List (Nat×α)
 |_,[]=>[]
 |i,x::xs=>(i,x)::p_ (i+1) xs
theorem zZ{α:Type}:∀(l:List α) (a n:Nat),l.length≤n→(List.range' a n).zip l=p_ a l
 |[],a,n,_=>by simp[p_]
 |x::xs,a,0,h=>by simp at h
 |x::xs,a,n+1,h=>by
  simp only[bV] at h;rw[List.range'_succ,List.zip_cons_cons,p_,zZ xs (a+1) n (by omega)]
theorem Dv{α:Type}(n:Nat)(l:List α)(h:l.length≤n):(List.range n).zip l=p_ 0 l:=by
 rw[List.range_eq_range',zZ l 0 n h]
attribute [simp] p_ Dv
def KV:Option Ob→Nat
 |none=>0
 |some b=>b.ct
def AF(o:List (Nat×Ob)):List (Nat×Nat×Ob)→List (Nat×Nat×Nat)
 |[]=>[]
 |l::r=>(l.1,l.2.1,KV (get o l.2.1))::AF o r
theorem AE(o:List (Nat×Ob)):∀ls:List (Nat×Nat×Ob),(ls.map fun l=>(l.1,l.2.1,(get o l.2.1).elim 0 (·.ct)))=AF o ls
 |[]=>rfl
 |l::r=>by
  rw[bu,AE o r,AF];congr 2;cases get o l.2.1<;>rfl
theorem D9(cf:cI)(n:Nat)(o:List (Nat×Ob))(f:Nat)(vals:List V)(lend:List Nat)(thaw:List (Nat×Nat)):gh cf n o f vals lend thaw=
 match args o lend 0 vals with
 |none=>none
 |some (as,ls,b)=>
  if vals.length≤1000∧(ls.map (·.2.1)).all (fun id=> !b.contains id)∧(ls.map (·.2.1)).Nodup then
   match cf f as (ls.map fun l=>(l.1,l.2.2)) with
   |none=>none
   |some (res,after)=>
    match lg n o after ls,back n (AF o ls) thaw res with
    |some gf,some (v,ups')=>if b.isEmpty∨(res.flat∧gf.all fun u=>u.2.rows.all (·.all T.scalar)) then some (v,gf++ups') else none
    |_,_=>none
  else none:=by
 unfold gh;cases args o lend 0 vals with
 |none=>rfl
 |some r=>obtain⟨as,ls,b⟩:=r;simp only[AE];rfl
attribute [simp] KV AF
attribute [simp] B6 B7 Iy F_ F8 Iv Gd D5 Gb Gc Ix F9 JW HO EX BG BH step_eq BI BJ E_ D9
end Mx
namespace Mx
open Go
attribute [-simp] cz step mL lL oY pv gh
variable {M:Nat→Option Body}
def Mh(l:List bq)(i:Nat)(x:Nat×Nat):St:={t:=[(3,.c (.row 6 x.1 0 i)),(7,.c (boxes l)),(8,.c (I l.length)),(9,.c (I i))],o:=[(6,⟨x.1,7,true,false,(l.take i).map af⟩)],n:=x.2}
def M3(l:List bq)(x:Nat×Nat):St:={t:=[(3,.c (.row 6 x.1 0 l.length)),(7,.c (boxes l)),(8,.c (I l.length)),(9,.c (I l.length)),(10,.c (.bool false))],o:=[(6,⟨x.1,7,true,false,(l.take l.length).map af⟩)],n:=x.2}
theorem eG.ak(h:eG.k M)(l:List bq)(hl:l.length≤1048576)(hb:∀b∈l,iw b):run M 270 [.c (boxes l)] []=some (.c (.sl true 7 (l.map af)),[]):=by
 obtain⟨h0,k1⟩:=h;refine au (b:=eG.m) h0 ⟨l.length+1, ?_⟩;have er:(l.map af).length=l.length:=by simp
 obtain⟨g,hr⟩:=kq (f:=cz (run M) (l.length+1) eG.l0) l.length (Mh l) 0 (M3 l)
  (fun i hi x=>by
   obtain⟨v,n⟩:=x;have h2:=cm.ak k1 l[i] (hb _ (ax hi));have e5:=cA (i:=i) (by omega);have e6:i+1≤4294967296:=by omega
   have e7:((l.take i).map af).length=i:=by simp;omega
   have e8:((l.take (i+1)).map af)=(l.take i).map af++[af l[i]]:=by rw[hH _ _ hi,cg];rfl
   have a1:∀hh,(l.map af)[i]'hh=af l[i]:=by intro hh;simp
   simp only[aE,Mh,e8,boxes];simp only[af,b7,ae,ints] at h2 a1 ⊢;generalize (l.take i).map af=rr at*;generalize l.map af=rb at*;generalize l[i].ae.map ah=rm at*;generalize aA l[i].gone=rg at*;simp (maxSteps:=9^9) [eG.l0,ab,setAt,hi,h2,e5,e6,e7,er,a1])
  (fun x=>by
   obtain⟨v,n⟩:=x;simp only[aE,Mh,M3,boxes];generalize (l.take l.length).map af=rr at*;generalize l.map af=rb at*;simp (maxSteps:=9^9) [eG.l0])
 have hr0:=hr (2000016,2000096);generalize g (2000016,2000096)=y at*;obtain⟨v,n⟩:=y;have ez:((0:Nat):Int)=0:=rfl;simp only[Mh,M3,ez,List.take_zero,bS,List.take_length,boxes] at hr0;simp only[boxes];generalize l.map af=rb at*;simp (maxSteps:=9^9) [ba,eG.m,eG.b,ab,hr0,er]
theorem bW.ak(h:bW.k M)(s:a7)(hs:gr s):run M 220 [.a (aq s)] []=some (.a (a_ s),[]):=by
 obtain⟨h0,k1,k2⟩:=h;have h1:=eR.ak k1 s.gone hs.g;have h2:=eG.ak k2 s.boxes hs.b hs.i;have er:(s.boxes.map af).length=s.boxes.length:=by simp
 have eg:=aS s.gone;refine au (b:=bW.m) h0 ⟨0, ?_⟩;simp only[aq,a_,boxes,ints] at*;generalize s.boxes.map af=rb at*;generalize aA s.gone=rs at*;simp (maxSteps:=9^9) [ba,bW.m,bW.b,ab,setAt,h1,h2,er,eg]
theorem dO.ak(h:dO.k M)(s:a7)(hs: -1000000000≤s.time∧s.time≤1000000000):run M 431 [.a (aq s)] []=some (.a [I (s.time+1),I s.eJ],[]):=by
 refine au (b:=dO.m) h ⟨0, ?_⟩;have e5:IntKind.i64.wrap (s.time+1)=s.time+1:=wrap_i64 (by omega) (by omega);simp only[aq,boxes,ints];simp (maxSteps:=9^9) [ba,dO.m,dO.b,ab,setAt,e5]
theorem fY.ak(h:fY.k M)(out s:a7)(ho:gr out)(hs:gr s):
  run M 441 [.a (aq out),.a (aq s)] []=some (.lM [.a (aq (if a8 out=true then out else s)),.c (.bool (a8 out))],[]):=by
 obtain⟨h0,ko,kc⟩:=h;have h1:=aK.ak ko out ho;have h2:=bW.ak kc s hs;have er:(s.boxes.map af).length=s.boxes.length:=by simp
 have eg:=aS s.gone;refine au (b:=fY.m) h0 ⟨0, ?_⟩;cases c:a8 out with
 |true=>
  rw[c] at h1;rw[if_pos rfl];simp only[aq,a_,boxes,ints] at*;generalize s.boxes.map af=rb at*;generalize aA s.gone=rs at*;generalize out.boxes.map af=ob at*;generalize aA out.gone=os at*;simp (maxSteps:=9^9) [ba,fY.m,fY.b,ab,setAt,h1]
 |false=>
  rw[c] at h1;rw[if_neg (by simp)];simp only[aq,a_,boxes,ints] at*;generalize s.boxes.map af=rb at*;generalize aA s.gone=rs at*;generalize out.boxes.map af=ob at*;generalize aA out.gone=os at*;simp (maxSteps:=9^9) [ba,fY.m,fY.b,ab,setAt,h1,h2]
end Mx
