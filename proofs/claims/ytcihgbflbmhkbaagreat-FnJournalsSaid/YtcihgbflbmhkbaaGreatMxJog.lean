/-
  What more of the functions compute, each by a small evaluation; no condition beyond what each says.
-/
import Derived.Test.YtcihgbflbmhkbaaGreatMxJof
set_option maxHeartbeats 16000000
set_option linter.unusedSimpArgs false
set_option linter.unusedVariables false
namespace Mx
open Go
variable {M:Nat→Option Body}
theorem Ao{a b:aT}(ha:mK a)(hb:mK b)(G:List Int):ln a.boxes b.boxes G=lO a.boxes b.boxes G:=by
 have nd:∀{s:aT},mK s→(fR s.boxes).Nodup:=fun {s} h=>List.pairwise_map.2 (h.Ku.imp fun q=>by omega)
 unfold ln lO;rw[Iv G (nd ha) (nd hb)]
theorem AP(kc:bj.k M)(k:Nat)(hk:1200≤k)(c:yH)(hL:c.L.length≤1000)(hb:∀b∈c.L,b.ae.length≤100∧(fD b.ae).Nodup)(v n:Nat):
  ∃s',eZ (ct (run M) k bQ.l0) k (yJ c ⟨0,[],v,n⟩)=some (.exit 0,F1 c s')∧s'.i=c.L.length:=by
 obtain⟨r,hr,s',rfl,hi⟩:=kW (f:=ct (run M) k bQ.l0) (yJ c) (OU c) (fun s=>c.L.length-s.i) (fun r=>∃s',r=(.exit 0,F1 c s')∧s'.i=c.L.length)
  (fun s hs=>by
   by_cases q:s.i<c.L.length
   ·left;obtain⟨s',hh,hI,hi⟩:=F0 kc k (by omega) c hL hb s hs q;exact⟨_,hh,hI,by omega⟩
   ·right;obtain⟨n',hh⟩:=Im (M:=M) k c s q;have:=hs.i;exact⟨_,hh,by simp,_,rfl,by simp only;omega⟩) k ⟨0,[],v,n⟩ ⟨by simp,fun g=>by simp[kz],by simp⟩ (by simp only;omega)
 exact⟨s',hr,hi⟩
theorem bQ.al(h:bQ.k M)(a b:aT)(ha:mK a)(hb:mK b):
  run M 446 [.a (ai a),.a (ai b)] []=some (.a [I a.df,I (Max.max a.time b.time),.sl true 7 ((dD a b).boxes.map af),.sl false 1 (az (dD a b).gone)],[]):=by
 obtain⟨h0,kg,kin,kb⟩:=h;have hga:=ha.gone;have hgb:=hb.gone;have hgj:=kG a.gone b.gone;have h1:=aU.al kg a.gone b.gone (by omega) (by omega);have h2:=aY.al kb a.boxes b.boxes (aR a.gone b.gone) ha.boxes hb.boxes (by omega);rw[←Ao ha hb] at h2;have hLl:=pE ha.boxes hb.boxes (aR a.gone b.gone);have hLs:=lX ha.boxes hb.boxes (aR a.gone b.gone);simp only[dD];have eg:=aN (aR a.gone b.gone);generalize aR a.gone b.gone=G at*;generalize ln a.boxes b.boxes G=L at*;have hLb:∀x∈L,x.ae.length≤100∧(fD x.ae).Nodup:=fun x hx=>⟨by have:=(hLs x hx).m;omega,(hLs x hx).d⟩
 obtain⟨⟨i1,sn1,v1,n1⟩,r1,hi1⟩:=AP kin 1200 (by omega) ⟨2000032,2000208,2000480,2000176,a.df,b.time,G,L⟩ (by simp only;omega) hLb 2000528 2000576;obtain⟨⟨i2,sn2,v2,n2⟩,r2,hi2⟩:=AP kin 1200 (by omega) ⟨2000032,2000208,2000416,2000176,a.df,a.time,G,L⟩ (by simp only;omega) hLb 2000464 2000512;simp only at hi1 hi2;subst hi1;subst hi2;refine aA (b:=bQ.m) h0 ⟨1200, ?_⟩;have el:(L.map af).length=L.length:=by simp
 have el2:((wC L).map af).length=L.length:=by simp[wC]
 have ez:((0:Nat):Int)=0:=rfl;have em:=Ae a.time b.time;simp only[yJ,F1,HU,yg,zA,ez,nJ,dM] at r1 r2;generalize hmx:Max.max a.time b.time=mx at*;clear hmx hLs hLb;generalize (wC L).map af=RD at*;generalize L.map af=RL at*;generalize L.length=N at*;simp only[ai,boxes,ints] at*;generalize az G=rg at*;generalize G.length=ng at*;generalize a.boxes.map af=ra at*;generalize b.boxes.map af=rb at*;generalize az a.gone=ga at*;generalize az b.gone=gb at*;by_cases c:a.time<b.time
 ·rw[if_pos c] at em;subst em;simp (maxSteps:=9^9) [ba,bQ.m,bQ.b,ab,setAt,h1,h2,r1,c,el,el2,eg,aa]
 ·rw[if_neg c] at em;subst em;simp (maxSteps:=9^9) [ba,bQ.m,bQ.b,ab,setAt,h1,h2,r2,c,el,el2,eg,aa]
def lA(a b:aT):Bool:=a8 a&&a8 b&&a8 (dD a b)
theorem s_{a b:aT}(ha:mK a)(hb:mK b):gJ (dD a b):=by
 have h1:=kG a.gone b.gone;have h2:=ha.gone;have h3:=hb.gone;have h4:=pE ha.boxes hb.boxes (aR a.gone b.gone);refine⟨by simp only[dD,wC,List.length_mapIdx];omega,by simp only[dD];omega,Hd _ (lX ha.boxes hb.boxes (aR a.gone b.gone)), ?_⟩;have hs:=Hd (ln a.boxes b.boxes (aR a.gone b.gone)) (lX ha.boxes hb.boxes (aR a.gone b.gone));have key:∀l:List bA,(∀x∈l,x.ae.length≤20)→(l.flatMap b_).length≤20*l.length:=by
  intro l
  induction l with
  |nil=>intro _;simp
  |cons x l ih=>
   intro h;have h1:=ih fun y hy=>h y (bo _ hy)
   have h2:=h x (bf ..);simp only[cI,ax,b_,de,bK] at h1 ⊢;omega
 have hk:=key (dD a b).boxes fun x hx=>by
  obtain⟨i,hi,rfl⟩:=bW hx;simp only[dD,wC,List.length_mapIdx] at hi;simp only[dD,wC,List.getElem_mapIdx,oc];have S:=lX ha.boxes hb.boxes (aR a.gone b.gone) _ (aq hi);exact Nat.le_trans (bP _ _) S.m
 have hl:(dD a b).boxes.length≤10:=by simp only[dD,wC,List.length_mapIdx];exact h4
 omega
theorem fw.al(h:fw.k M)(a b:aT)(ha:gJ a)(hb:gJ b):run M 433 [.a (ai a),.a (ai b)] []=some (.c (.bool (lA a b)),[]):=by
 obtain⟨h0,ks,kj⟩:=h;have h1:=aJ.al ks a ha;have h2:=aJ.al ks b hb;refine aA (b:=fw.m) h0 ⟨0, ?_⟩;unfold lA;cases c1:a8 a with
 |false=>
  rw[c1] at h1;simp only[ai,boxes,ints] at*;generalize a.boxes.map af=ra at*;generalize b.boxes.map af=rb at*;generalize az a.gone=ga at*;generalize az b.gone=gb at*;simp (maxSteps:=9^9) [ba,fw.m,fw.b,ab,h1,aa]
 |true=>
  rw[c1] at h1;cases c2:a8 b with
  |false=>
   rw[c2] at h2;simp only[ai,boxes,ints] at*;generalize a.boxes.map af=ra at*;generalize b.boxes.map af=rb at*;generalize az a.gone=ga at*;generalize az b.gone=gb at*;simp (maxSteps:=9^9) [ba,fw.m,fw.b,ab,h1,h2,aa]
  |true=>
   rw[c2] at h2;have h3:=bG.al kj a b (eT c1) (eT c2);have h4:=aJ.al ks _ (s_ (eT c1) (eT c2));have e1:(dD a b).df=a.df:=rfl;have e2:(dD a b).time=Max.max a.time b.time:=rfl;simp only[ai,boxes,ints,e1,e2] at*;generalize Max.max a.time b.time=mx at*;generalize a8 (dD a b)=w at*;generalize (dD a b).boxes.map af=rj at*;generalize az (dD a b).gone=gj at*;generalize a.boxes.map af=ra at*;generalize b.boxes.map af=rb at*;generalize az a.gone=ga at*;generalize az b.gone=gb at*;simp (maxSteps:=9^9) [ba,fw.m,fw.b,ab,h1,h2,h3,h4,aa]
theorem fu.al(h:fu.k M)(a b:aT)(ha:gJ a)(hb:gJ b):run M 432 [.a (ai a),.a (ai b)] []=some (.c (.bool (lA a b)),[]):=by
 obtain⟨h0,ks,kj⟩:=h;have h1:=aL.al ks a ha;have h2:=aL.al ks b hb;refine aA (b:=fu.m) h0 ⟨0, ?_⟩;unfold lA;cases c1:a8 a with
 |false=>
  rw[c1] at h1;simp only[ai,boxes,ints] at*;generalize a.boxes.map af=ra at*;generalize b.boxes.map af=rb at*;generalize az a.gone=ga at*;generalize az b.gone=gb at*;simp (maxSteps:=9^9) [ba,fu.m,fu.b,ab,h1,aa]
 |true=>
  rw[c1] at h1;cases c2:a8 b with
  |false=>
   rw[c2] at h2;simp only[ai,boxes,ints] at*;generalize a.boxes.map af=ra at*;generalize b.boxes.map af=rb at*;generalize az a.gone=ga at*;generalize az b.gone=gb at*;simp (maxSteps:=9^9) [ba,fu.m,fu.b,ab,h1,h2,aa]
  |true=>
   rw[c2] at h2;have h3:=bQ.al kj a b (eT c1) (eT c2);have h4:=aL.al ks _ (s_ (eT c1) (eT c2));have e1:(dD a b).df=a.df:=rfl;have e2:(dD a b).time=Max.max a.time b.time:=rfl;simp only[ai,boxes,ints,e1,e2] at*;generalize Max.max a.time b.time=mx at*;generalize a8 (dD a b)=w at*;generalize (dD a b).boxes.map af=rj at*;generalize az (dD a b).gone=gj at*;generalize a.boxes.map af=ra at*;generalize b.boxes.map af=rb at*;generalize az a.gone=ga at*;generalize az b.gone=gb at*;simp (maxSteps:=9^9) [ba,fu.m,fu.b,ab,h1,h2,h3,h4,aa]
end Mx
namespace Mx
open Go
def mb(l:List bA)(g:Int):List Int:=match kZ l g with|some x=>fD x.ae|none=>[]
def gb(l:List bA)(g:Int):List Int:=match kZ l g with|some x=>x.gone|none=>[]
def raw(a b:List bA)(G:List Int):List bA:=((aR (fR a) (fR b)).filter fun g=> !decide (g∈G)).map (mC a b)
theorem vJ:∀(l acc:List bA) (i:Nat) (h:i<l.length),∃nm,(l.foldl o7 acc)[acc.length+i]? =some {l[i] with name:=nm}
 |x::l,acc,i,h=>by
  rw[fa];have hs:o7 acc x=acc++[pX acc x]:=rfl;cases i with
  |zero=>
   have hp:∀(l acc:List bA) (k:Nat),k<acc.length→(l.foldl o7 acc)[k]? =acc[k]? :=by
    intro l
    induction l with
    |nil=>intro acc k _;rfl
    |cons y l ih=>
     intro acc k hk;rw[fa,ih (o7 acc y) k (by rw[qN];simp;omega),qN,List.getElem?_append_left hk]
   rw[hp l _ _ (by rw[hs];simp),hs];refine⟨(pX acc x).name, ?_⟩;simp only[Nat.add_zero,List.getElem?_append_right (Nat.le_refl _),Nat.sub_self,List.getElem?_cons_zero,List.getElem_cons_zero];unfold pX;split<;>rfl
  |succ i=>
   have:=vJ l (o7 acc x) i (by simpa using h);rw[hs] at this;simpa [hs,Nat.add_assoc,Nat.add_comm 1] using this
theorem KW(l:List bA)(i:Nat)(h:i<l.length):∃nm,(qB l)[i]'(by rw[lC];exact h)={l[i] with name:=nm}:=by
 obtain⟨nm,e⟩:=vJ l [] i h;refine⟨nm, ?_⟩;simp only[dM,Nat.zero_add] at e;have e2:(qB l)[i]? =some {l[i] with name:=nm}:=e
 rw[cj (by rw[lC];exact h)] at e2;exact Option.some.inj e2
theorem zc{L:List bA}{i:Nat}{m:Int}:m∈kz L i↔∃k,∃h:k<L.length,k<i∧m∈fD L[k].ae:=by
 unfold kz;rw[jA];constructor
 ·rintro ⟨b,hb,hm⟩;obtain⟨k,hk,rfl⟩:=bW hb;simp only[eD] at hk;rw[List.getElem_take] at hm;exact⟨k,by omega,by omega,hm⟩
 ·rintro ⟨k,hk,hki,hm⟩;refine⟨L[k], ?_,hm⟩;have:k<(L.take i).length:=by simp;omega
  have e:(L.take i)[k]=L[k]:=by rw[List.getElem_take]
  rw[←e];exact aq this
theorem He{L:List bA}{i:Nat}(h:i<L.length){m:Int}:m∈fD ((wC L)[i]'(by simpa [wC] using h)).ae↔m∈fD L[i].ae∧¬m∈kz L i:=by
 simp only[wC,List.getElem_mapIdx,oc,fD,oI,fN,Bool.not_eq_true',decide_eq_false_iff_not];constructor
 ·rintro ⟨y,⟨h1,h2⟩,rfl⟩;exact⟨⟨y,h1,rfl⟩,h2⟩
 ·rintro ⟨⟨y,h1,rfl⟩,h2⟩;exact⟨y,⟨h1,h2⟩,rfl⟩
structure OY (a b:List bA) (G:List Int) (L:List bA):Prop where
 len:L.length=(raw a b G).length
 at_:∀i (h:i<L.length),∃hr:i<(raw a b G).length,L[i].gid=(raw a b G)[i].gid∧L[i].gone=(raw a b G)[i].gone∧
  ∀m,m∈fD L[i].ae↔m∈fD (raw a b G)[i].ae∧¬m∈kz (raw a b G) i
 nd:(∀x∈raw a b G,(fD x.ae).Nodup)→∀i (h:i<L.length),(fD L[i].ae).Nodup
theorem O2(a b:List bA)(G:List Int):OY a b G (wC (lO a b G)):=by
 have hl:(wC (lO a b G)).length=(raw a b G).length:=by simp only[wC,List.length_mapIdx];exact lC _
 have hS:∀i (h:i<(raw a b G).length),∃nm,(lO a b G)[i]'(by rw[show (lO a b G).length=_ from lC _];exact h)={(raw a b G)[i] with name:=nm}:=fun i h=>KW (raw a b G) i h
 have hlS:(lO a b G).length=(raw a b G).length:=lC _;have hseen:∀i m,m∈kz (lO a b G) i↔m∈kz (raw a b G) i:=by
  intro i m;rw[zc,zc];constructor
  ·rintro ⟨k,h1,h2,h3⟩;obtain⟨nm,e⟩:=hS k (by omega);rw[e] at h3;exact⟨k,by omega,h2,h3⟩
  ·rintro ⟨k,h1,h2,h3⟩;obtain⟨nm,e⟩:=hS k h1;exact⟨k,by omega,h2,by rw[e];exact h3⟩
 refine⟨hl,fun i h=> ?_,fun hn i h=> ?_⟩
 ·have hr:i<(raw a b G).length:=by omega
  obtain⟨nm,e⟩:=hS i hr;refine⟨hr, ?_, ?_,fun m=> ?_⟩
  ·simp only[wC,List.getElem_mapIdx,oc,e]
  ·simp only[wC,List.getElem_mapIdx,oc,e]
  ·rw[He (by omega),hseen,e]
 ·have hr:i<(raw a b G).length:=by omega
  obtain⟨nm,e⟩:=hS i hr;have:=hn _ (aq hr);simp only[wC,List.getElem_mapIdx,oc,e,fD] at this ⊢;exact this.sublist (List.Sublist.map _ List.filter_sublist)
end Mx
namespace Mx
open Go
variable {M:Nat→Option Body}
structure Ky (b:bA):Prop where
 m:b.ae.length≤1048576
 g:b.gone.length≤1048576
 f:∀m∈b.ae,m.flags.length≤1048576
structure sO (s:aT):Prop where
 b:s.boxes.length≤1048576
 g:s.gone.length≤1048576
 box:∀b∈s.boxes,Ky b
def KR(a b:bA)(i:Nat)(x:Nat×Nat×Nat):St:={t:=[(2,.c (.ptr 2 x.1 0 0)),(3,.c (.ptr 3 x.2.1 0 0)),(5,.c (I i))],o:=[(2,⟨x.1,7,true,true,[af a]⟩),(3,⟨x.2.1,7,true,true,[af b]⟩)],n:=x.2.2}
def Nv(a b:bA)(x:Nat×Nat×Nat):St:={t:=[(2,.c (.ptr 2 x.1 0 0)),(3,.c (.ptr 3 x.2.1 0 0)),(5,.c (I a.ae.length)),(55,.c (.bool false))],o:=[(2,⟨x.1,7,true,true,[af a]⟩),(3,⟨x.2.1,7,true,true,[af b]⟩)],n:=x.2.2}
def EE(a b:bA)(i:Nat)(x:Nat×Nat×Nat):St:={t:=[(2,.c (.ptr 2 x.1 0 0)),(3,.c (.ptr 3 x.2.1 0 0)),(6,.c (I i))],o:=[(2,⟨x.1,7,true,true,[af a]⟩),(3,⟨x.2.1,7,true,true,[af b]⟩)],n:=x.2.2}
def KS(a b:bA)(x:Nat×Nat×Nat):St:={t:=[(2,.c (.ptr 2 x.1 0 0)),(3,.c (.ptr 3 x.2.1 0 0)),(6,.c (I a.gone.length)),(74,.c (.bool false))],o:=[(2,⟨x.1,7,true,true,[af a]⟩),(3,⟨x.2.1,7,true,true,[af b]⟩)],n:=x.2.2}
theorem pC{f:St→Option (Out×St)}:∀{n m:Nat} {s:St} {r:Out×St},eZ f n s=some r→n≤m→eZ f m s=some r
 |0,m,s,r,h,_=>by simp[eZ] at h
 |n+1,0,s,r,h,hm=>by omega
 |n+1,m+1,s,r,h,hm=>by
  simp only[eZ] at h ⊢;split at h
  ·exact pC h (by omega)
  ·exact h
theorem bS.al(h:bS.k M)(a b:bA)(ha:Ky a):run M 116 [.a (af a),.a (af b)] []=some (.c (.bool (decide (a=b))),[]):=by
 obtain⟨h0,k1⟩:=h;refine aA (b:=bS.m) h0 ⟨a.ae.length+a.gone.length+1, ?_⟩;by_cases c1:a.gid=b.gid;rotate_left
 ·have hne:¬a=b:=fun q=>c1 (by rw[q])
  simp[ba,bS.m,bS.b,ab,c1,hne]
 by_cases c2:a.name=b.name;rotate_left
 ·have hne:¬a=b:=fun q=>c2 (by rw[q])
  simp[ba,bS.m,bS.b,ab,c1,c2,hne]
 by_cases c3:a.time=b.time;rotate_left
 ·have hne:¬a=b:=fun q=>c3 (by rw[q])
  simp[ba,bS.m,bS.b,ab,c1,c2,c3,hne,tR,B6]
 by_cases c4:a.df=b.df;rotate_left
 ·have hne:¬a=b:=fun q=>c4 (by rw[q])
  simp[ba,bS.m,bS.b,ab,c1,c2,c3,c4,hne,tR,B6]
 by_cases c5:a.next=b.next;rotate_left
 ·have hne:¬a=b:=fun q=>c5 (by rw[q])
  simp[ba,bS.m,bS.b,ab,c1,c2,c3,c4,c5,hne,tR,B6]
 by_cases c6:a.ae.length=b.ae.length;rotate_left
 ·have hne:¬a=b:=fun q=>c6 (by rw[q])
  have c6':¬(a.ae.length:Int)=b.ae.length:=by omega
  simp[ba,bS.m,bS.b,ab,c1,c2,c3,c4,c5,c6',hne,tR,B6]
 by_cases c7:a.gone.length=b.gone.length;rotate_left
 ·have hne:¬a=b:=fun q=>c7 (by rw[q])
  have c7':¬(a.gone.length:Int)=b.gone.length:=by omega
  simp[ba,bS.m,bS.b,ab,c1,c2,c3,c4,c5,c6,c7',hne,tR,B6]
 obtain⟨K,hK⟩:∃K,K=a.ae.length+a.gone.length+1:=⟨_,rfl⟩
 rw[←hK];have hml:=ha.m;have hgl:=ha.g;have hfl:=ha.f;obtain⟨g,hr⟩:=uy a.ae b.ae c6 (f:=ct (run M) K bS.l0) (KR a b) 4 0 (Nv a b)
  (fun i hi hi' x c=>by
   obtain⟨v,w,x⟩:=x;have e5:=cA (i:=i) (by omega);have hm:=cq.al k1 a.ae[i] b.ae[i] (hfl _ (aq hi));rw[decide_eq_true c] at hm;simp only[ah] at hm;simp only[aE];simp[KR,bS.l0,hi,hi',e5,ah,hm])
  (fun i hi hi' x c=>by
   obtain⟨v,w,x⟩:=x;have hm:=cq.al k1 a.ae[i] b.ae[i] (hfl _ (aq hi));rw[decide_eq_false c] at hm;simp only[ah] at hm;simp[KR,bS.l0,hi,hi',ah,hm])
  (fun x=>by
   obtain⟨v,w,x⟩:=x;simp only[aE];simp[KR,Nv,bS.l0])
 have hr':=fun x=>pC (hr x) (show a.ae.length+1≤K by omega)
 by_cases c8:a.ae=b.ae;rotate_left
 ·have hne:¬a=b:=fun q=>c8 (by rw[q])
  simp only[c8,if_false] at hr';simp[KR,af,c1,c2,c3,c4,c5] at hr';simp[ba,bS.m,bS.b,ab,af,c1,c2,c3,c4,c5,c6,c7,hne,tR,B6,hr']
 obtain⟨g2,hr2⟩:=uy a.gone b.gone c7 (f:=ct (run M) K bS.l1) (EE a b) 4 2 (KS a b)
  (fun i hi hi' x c=>by
   obtain⟨v,w,x⟩:=x;have e5:=cA (i:=i) (by omega);simp only[aE];simp[EE,bS.l1,hi,hi',e5,c])
  (fun i hi hi' x c=>by
   obtain⟨v,w,x⟩:=x;simp[EE,bS.l1,hi,hi',c])
  (fun x=>by
   obtain⟨v,w,x⟩:=x;simp only[aE];simp[EE,KS,bS.l1])
 have hr2':=fun x=>pC (hr2 x) (show a.gone.length+1≤K by omega)
 simp only[c8,if_true] at hr';by_cases c9:a.gone=b.gone
 ·have he:a=b:=JO c1 c2 c3 c4 c5 c8 c9;subst he;simp only[if_true] at hr2';simp[KR,Nv,af] at hr';simp[EE,KS,af] at hr2';simp[ba,bS.m,bS.b,ab,af,tR,B6,hr',hr2']
 ·have hne:¬a=b:=fun q=>c9 (by rw[q])
  simp only[c9,if_false] at hr2';simp[KR,Nv,af,c1,c2,c3,c4,c5,c8] at hr';simp[EE,af,c1,c2,c3,c4,c5,c8] at hr2';simp[ba,bS.m,bS.b,ab,af,c1,c2,c3,c4,c5,c7,c8,hne,tR,B6,hr',hr2']
def alike(a b:aT):Bool:=decide (a.boxes=b.boxes)&&decide (a.gone=b.gone)
def KT(a b:aT)(i:Nat)(x:Nat×Nat×Nat):St:={t:=[(2,.c (.ptr 2 x.1 0 0)),(3,.c (.ptr 3 x.2.1 0 0)),(5,.c (I i))],o:=[(2,⟨x.1,4,true,true,[ai a]⟩),(3,⟨x.2.1,4,true,true,[ai b]⟩)],n:=x.2.2}
def Nw(a b:aT)(x:Nat×Nat×Nat):St:={t:=[(2,.c (.ptr 2 x.1 0 0)),(3,.c (.ptr 3 x.2.1 0 0)),(5,.c (I a.boxes.length)),(27,.c (.bool false))],o:=[(2,⟨x.1,4,true,true,[ai a]⟩),(3,⟨x.2.1,4,true,true,[ai b]⟩)],n:=x.2.2}
def EF(a b:aT)(i:Nat)(x:Nat×Nat×Nat):St:={t:=[(2,.c (.ptr 2 x.1 0 0)),(3,.c (.ptr 3 x.2.1 0 0)),(6,.c (I i))],o:=[(2,⟨x.1,4,true,true,[ai a]⟩),(3,⟨x.2.1,4,true,true,[ai b]⟩)],n:=x.2.2}
def KU(a b:aT)(x:Nat×Nat×Nat):St:={t:=[(2,.c (.ptr 2 x.1 0 0)),(3,.c (.ptr 3 x.2.1 0 0)),(6,.c (I a.gone.length)),(46,.c (.bool false))],o:=[(2,⟨x.1,4,true,true,[ai a]⟩),(3,⟨x.2.1,4,true,true,[ai b]⟩)],n:=x.2.2}
theorem dg.al(h:dg.k M)(a b:aT)(ha:sO a):run M 31 [.a (ai a),.a (ai b)] []=some (.c (.bool (alike a b)),[]):=by
 obtain⟨h0,k1⟩:=h;refine aA (b:=dg.m) h0 ⟨a.boxes.length+a.gone.length+1, ?_⟩;unfold alike;by_cases c6:a.boxes.length=b.boxes.length;rotate_left
 ·have hne:¬a.boxes=b.boxes:=fun q=>c6 (by rw[q])
  have c6':¬(a.boxes.length:Int)=b.boxes.length:=by omega
  simp[ba,dg.m,dg.b,ab,c6',hne]
 by_cases c7:a.gone.length=b.gone.length;rotate_left
 ·have hne:¬a.gone=b.gone:=fun q=>c7 (by rw[q])
  have c7':¬(a.gone.length:Int)=b.gone.length:=by omega
  simp[ba,dg.m,dg.b,ab,c6,c7',hne]
 obtain⟨K,hK⟩:∃K,K=a.boxes.length+a.gone.length+1:=⟨_,rfl⟩
 rw[←hK];have hbl:=ha.b;have hgl:=ha.g;obtain⟨g,hr⟩:=uy a.boxes b.boxes c6 (f:=ct (run M) K dg.l0) (KT a b) 4 0 (Nw a b)
  (fun i hi hi' x c=>by
   obtain⟨v,w,x⟩:=x;have e5:=cA (i:=i) (by omega);have hm:=bS.al k1 a.boxes[i] b.boxes[i] (ha.box _ (aq hi));rw[decide_eq_true c] at hm;simp only[af] at hm;simp only[aE];simp[KT,dg.l0,hi,hi',e5,af,hm])
  (fun i hi hi' x c=>by
   obtain⟨v,w,x⟩:=x;have hm:=bS.al k1 a.boxes[i] b.boxes[i] (ha.box _ (aq hi));rw[decide_eq_false c] at hm;simp only[af] at hm;simp[KT,dg.l0,hi,hi',af,hm])
  (fun x=>by
   obtain⟨v,w,x⟩:=x;simp only[aE];simp[KT,Nw,dg.l0])
 have hr':=fun x=>pC (hr x) (show a.boxes.length+1≤K by omega)
 by_cases c8:a.boxes=b.boxes;rotate_left
 ·simp only[c8,if_false] at hr';simp[KT,ai] at hr';simp[ba,dg.m,dg.b,ab,ai,c6,c7,c8,hr']
 obtain⟨g2,hr2⟩:=uy a.gone b.gone c7 (f:=ct (run M) K dg.l1) (EF a b) 4 2 (KU a b)
  (fun i hi hi' x c=>by
   obtain⟨v,w,x⟩:=x;have e5:=cA (i:=i) (by omega);simp only[aE];simp[EF,dg.l1,hi,hi',e5,c])
  (fun i hi hi' x c=>by
   obtain⟨v,w,x⟩:=x;simp[EF,dg.l1,hi,hi',c])
  (fun x=>by
   obtain⟨v,w,x⟩:=x;simp only[aE];simp[EF,KU,dg.l1])
 have hr2':=fun x=>pC (hr2 x) (show a.gone.length+1≤K by omega)
 simp only[c8,if_true] at hr';by_cases c9:a.gone=b.gone
 ·simp only[c9,if_true] at hr2';simp[KT,Nw,ai,c8,c9] at hr';simp[EF,KU,ai,c8,c9] at hr2';simp[ba,dg.m,dg.b,ab,ai,c8,c9,hr',hr2']
 ·simp only[c9,if_false] at hr2';simp[KT,Nw,ai,c8] at hr';simp[EF,ai,c8] at hr2';simp[ba,dg.m,dg.b,ab,ai,c7,c8,c9,hr',hr2']
theorem jf.al(h:jf.k M)(b:bA)(g:Int):run M 199 [.a (af b),.c (.vp [I g] 0)] []=some (.c (.bool (decide (b.gid=g))),[]):=by
 refine aA (b:=jf.m) h ⟨0, ?_⟩;simp (maxSteps:=9^9) [ba,jf.m,jf.b,ab,af]
theorem gV.al(h:gV.k M)(s:aT)(g:Int)(hl:s.boxes.length≤1048576):run M 95 [.a (ai s),.c (I g)] []=some (.c (I (dO (mc s.boxes g))),[]):=by
 have h1:=aB.gen h.2.2 (fun b=>jf.al h.2.1 b g) s.boxes hl;refine aA (b:=gV.m) h.1 ⟨0, ?_⟩;unfold mc;simp only[ai,boxes,ints] at h1 ⊢;generalize s.boxes.map af=r at*;generalize az s.gone=rg at*;simp (maxSteps:=9^9) [ba,gV.m,gV.b,ab,h1]
end Mx
namespace Mx
open Go
def DM(kt ko:List Nat)(n:Nat):Option (List (Nat×V)×List (Nat×Ob))→Option (Out×St)
 |none=>none
 |some r=>some (.normal,{t:=keep kt r.1,o:=keep ko r.2,n:=n})
theorem CK(kt ko:List Nat)(n:Nat)(t:List (Nat×V))(o:List (Nat×Ob)):DM kt ko n (some (t,o))=some (.normal,{t:=keep kt t,o:=keep ko o,n:=n}):=rfl
theorem CL(kt ko:List Nat)(n:Nat):DM kt ko n none=none:=rfl
theorem JE(cf:cT)(k:Nat)(s:St)(ops:List ow)(kt ko:List Nat):ct cf k (.ak ops kt ko) s=DM kt ko (s.n+16*ops.length) (steps cf s.n 0 ops s.t s.o):=by
 simp only[ct];cases steps cf s.n 0 ops s.t s.o<;>rfl
theorem G6(cf:cT)(k:Nat)(s:St)(ops:List ow)(anc:List (List Nat))(kt ko:List Nat):ct cf k (.gw ops anc kt ko) s=DM kt ko (s.n+16*ops.length) (kf cf s.n 0 ops anc s.t s.o []):=by
 simp only[ct];cases kf cf s.n 0 ops anc s.t s.o []<;>rfl
theorem G4(cf:cT)(k:Nat)(s:St):ct cf k .skip s=some (.normal,s):=rfl
theorem JB(cf:cT)(k:Nat)(s:St)(a b:C):ct cf k (.seq a b) s=match ct cf k a s with|some (.normal,s')=>ct cf k b s'|r=>r:=rfl
theorem G_(cf:cT)(k:Nat)(s:St)(c:Nat)(a b:C):ct cf k (.cond (.t c) a b) s=match qf s.t (.t c) with|some true=>ct cf k a s|some false=>ct cf k b s|none=>none:=rfl
theorem E7(cf:cT)(k:Nat)(s:St)(id:Nat)(a:C):ct cf k (.block id a) s=match ct cf k a s with|some (.exit id',s')=>some (if id'=id then(.normal,s') else(.exit id',s'))|r=>r:=rfl
theorem G8(cf:cT)(k:Nat)(s:St)(a:C):ct cf k (.loop a) s=eZ (ct cf k a) k s:=rfl
theorem G9(cf:cT)(k:Nat)(s:St)(id:Nat):ct cf k (.exit id) s=some (.exit id,s):=rfl
theorem JD(cf:cT)(k:Nat)(s:St):ct cf k .ret s=some (.ret,s):=rfl
theorem G5(cf:cT)(k:Nat)(s:St)(ids:List Nat)(a:C):ct cf k (.shut ids a) s=ct cf k a {s with o:=uR ids s.o}:=rfl
theorem K_(n i:Nat):(lr n).contains i=decide (i<n):=by
 simp only[lr,List.contains_eq_mem,List.mem_range]
theorem IZ(n i:Nat)(l:List Nat):(lr n++l).contains i=(decide (i<n)||l.contains i):=by
 simp only[lr,List.contains_eq_mem,iC,List.mem_range,Bool.decide_or]
def M1:Option Ob→List Nat
 |some b=>if b.bx then b.rows.flatMap fun r=>r.flatMap ql else []
 |none=>[]
def E5(o:List (Nat×Ob)):List Nat→List Nat
 |[]=>[]
 |id::r=>M1 (get o id)++E5 o r
def Bu(o:List (Nat×Ob)):List T→List Nat
 |[]=>[]
 |t::ts=>(ql t++E5 o (ql t))++Bu o ts
def Js(o:List (Nat×Ob)):Option V→List Nat
 |some (.c t)=>ql t++E5 o (ql t)
 |some (.a ts)=>Bu o ts
 |_=>[]
def wU(t:List (Nat×V))(o:List (Nat×Ob)):List Nat→List Nat
 |[]=>[]
 |x::xs=>Js o (get t x)++wU t o xs
theorem Aw(o:List (Nat×Ob)):∀l,l.flatMap (oW o)=E5 o l
 |[]=>rfl
 |x::l=>by
  rw[cI,Aw o l,E5];congr 1
theorem Bt(o:List (Nat×Ob)):∀ts:List T,(ts.flatMap fun t=>ql t++(ql t).flatMap (oW o))=Bu o ts
 |[]=>rfl
 |t::ts=>by rw[cI,Bt o ts,Bu,Aw]
theorem y4(t:List (Nat×V))(o:List (Nat×Ob)):∀l:List Nat,(l.flatMap fun x=>match get t x with|some v=>oR o v|none=>[])=wU t o l
 |[]=>rfl
 |x::l=>by
  rw[cI,y4 t o l,wU];congr 1;cases h:get t x with
  |none=>rfl
  |some v=>
   cases v with
   |c t=>simp only[oR,Js,Aw]
   |a ts=>simp only[oR,Js,Bt]
   |_=>rfl
theorem FY(t:List (Nat×V))(o:List (Nat×Ob))(m:MO):ly t o m=wU t o m.CT:=y4 t o _
attribute [simp] M1 E5 Bu Js wU
def F2(t:List (Nat×V))(o:List (Nat×Ob))(d:Option Nat):HT→Option (List (Nat×V)×List (Nat×Ob))
 |none=>none
 |some r=>some (oV t d r.1,r.2++o)
theorem Ci(t:List (Nat×V))(o:List (Nat×Ob))(d:Option Nat)(v:V)(u:List (Nat×Ob)):F2 t o d (some (v,u))=some (oV t d v,u++o):=rfl
theorem Cj(t:List (Nat×V))(o:List (Nat×Ob))(d:Option Nat):F2 t o d none=none:=rfl
theorem step_eq(cf:cT)(n i:Nat)(m:ow)(t:List (Nat×V))(o:List (Nat×Ob)):step cf n i m t o=match wanted t m.guard with
  |some true=>F2 t o m.dst (act cf (n+16*i) (m.dst.getD 0) t o m.op)
  |some false=>some (oV t m.dst .undef,o)
  |none=>none:=by
 unfold step;cases wanted t m.guard with
 |none=>rfl
 |some b=>cases b with
  |false=>rfl
  |true=>simp only[];cases act cf (n+16*i) (m.dst.getD 0) t o m.op<;>rfl
def F3(t:List (Nat×V))(d:Option Nat):HT→Option (List (Nat×V))
 |none=>none
 |some r=>some (oV t d r.1)
theorem Ck(t:List (Nat×V))(d:Option Nat)(r:V×List (Nat×Ob)):F3 t d (some r)=some (oV t d r.1):=rfl
theorem Cl(t:List (Nat×V))(d:Option Nat):F3 t d none=none:=rfl
theorem F4(cf:cT)(n i:Nat)(m:ow)(t:List (Nat×V))(o:List (Nat×Ob)):my cf n i m t o=match wanted t m.guard with
  |some true=>F3 t m.dst (oq cf (n+16*i) (m.dst.getD 0) t o m.op)
  |some false=>some (oV t m.dst .undef)
  |none=>none:=by
 unfold my;cases wanted t m.guard with
 |none=>rfl
 |some b=>cases b with
  |false=>rfl
  |true=>simp only[];cases oq cf (n+16*i) (m.dst.getD 0) t o m.op<;>rfl
def qe{α:Type}:Nat→List α→List (Nat×α)
 |_,[]=>[]
 |i,x::xs=>(i,x)::qe (i+1) xs
theorem AL{α:Type}:∀(l:List α) (a n:Nat),l.length≤n→(List.range' a n).zip l=qe a l
 |[],a,n,_=>by simp[qe]
 |x::xs,a,0,h=>by simp at h
 |x::xs,a,n+1,h=>by
  simp only[bK] at h;rw[List.range'_succ,List.zip_cons_cons,qe,AL xs (a+1) n (by omega)]
theorem Ed{α:Type}(n:Nat)(l:List α)(h:l.length≤n):(List.range n).zip l=qe 0 l:=by
 rw[List.range_eq_range',AL l 0 n h]
attribute [simp] qe Ed
def Mo:Option Ob→Nat
 |none=>0
 |some b=>b.cG
def Bh(o:List (Nat×Ob)):List (Nat×Nat×Ob)→List (Nat×Nat×Nat)
 |[]=>[]
 |l::r=>(l.1,l.2.1,Mo (get o l.2.1))::Bh o r
theorem Bg(o:List (Nat×Ob)):∀ls:List (Nat×Nat×Ob),(ls.map fun l=>(l.1,l.2.1,(get o l.2.1).elim 0 (·.cG)))=Bh o ls
 |[]=>rfl
 |l::r=>by
  rw[bq,Bg o r,Bh];congr 2;cases get o l.2.1<;>rfl
theorem Fa(cf:cT)(n:Nat)(o:List (Nat×Ob))(f:Nat)(vals:List V)(lend:List Nat)(thaw:List (Nat×Nat)):iO cf n o f vals lend thaw=
 match args o lend 0 vals with
 |none=>none
 |some (as,ls,b)=>
  if vals.length≤1000∧(ls.map (·.2.1)).all (fun id=> !b.contains id)∧(ls.map (·.2.1)).Nodup then
   match cf f as (ls.map fun l=>(l.1,l.2.2)) with
   |none=>none
   |some (res,after)=>
    match mB n o after ls,back n (Bh o ls) thaw res with
    |some gA,some (v,ups')=>if b.isEmpty∨(res.flat∧gA.all fun u=>u.2.rows.all (·.all T.scalar)) then some (v,gA++ups') else none
    |_,_=>none
  else none:=by
 unfold iO;cases args o lend 0 vals with
 |none=>rfl
 |some r=>obtain⟨as,ls,b⟩:=r;simp only[Bg];rfl
attribute [simp] Mo Bh
attribute [simp] CK CL JE G6 G4 JB G_ E7 G8 G9 JD G5 K_ IZ FY Ci Cj step_eq Ck Cl F4 Fa
end Mx
namespace Mx
open Go
attribute [-simp] ct step my ly oR oW iO
variable {M:Nat→Option Body}
def NR(l:List bA)(i:Nat)(x:Nat×Nat):St:={t:=[(3,.c (.row 6 x.1 0 i)),(7,.c (boxes l)),(8,.c (I l.length)),(9,.c (I i))],o:=[(6,⟨x.1,7,true,false,(l.take i).map af⟩)],n:=x.2}
def OK(l:List bA)(x:Nat×Nat):St:={t:=[(3,.c (.row 6 x.1 0 l.length)),(7,.c (boxes l)),(8,.c (I l.length)),(9,.c (I l.length)),(10,.c (.bool false))],o:=[(6,⟨x.1,7,true,false,(l.take l.length).map af⟩)],n:=x.2}
theorem eW.al(h:eW.k M)(l:List bA)(hl:l.length≤1048576)(hb:∀b∈l,iL b):run M 270 [.c (boxes l)] []=some (.c (.sl true 7 (l.map af)),[]):=by
 obtain⟨h0,k1⟩:=h;refine aA (b:=eW.m) h0 ⟨l.length+1, ?_⟩;have er:(l.map af).length=l.length:=by simp
 obtain⟨g,hr⟩:=ky (f:=ct (run M) (l.length+1) eW.l0) l.length (NR l) 0 (OK l)
  (fun i hi x=>by
   obtain⟨v,n⟩:=x;have h2:=cB.al k1 l[i] (hb _ (aq hi));have e5:=cA (i:=i) (by omega);have e6:i+1≤4294967296:=by omega
   have e7:((l.take i).map af).length=i:=by simp;omega
   have e8:((l.take (i+1)).map af)=(l.take i).map af++[af l[i]]:=by rw[iA _ _ hi,cg];rfl
   have a1:∀hh,(l.map af)[i]'hh=af l[i]:=by intro hh;simp
   simp only[aE,NR,e8,boxes];simp only[af,cm,ae,ints] at h2 a1 ⊢;generalize (l.take i).map af=rr at*;generalize l.map af=rb at*;generalize l[i].ae.map ah=rm at*;generalize az l[i].gone=rg at*;simp (maxSteps:=9^9) [eW.l0,aa,setAt,hi,h2,e5,e6,e7,er,a1])
  (fun x=>by
   obtain⟨v,n⟩:=x;simp only[aE,NR,OK,boxes];generalize (l.take l.length).map af=rr at*;generalize l.map af=rb at*;simp (maxSteps:=9^9) [eW.l0])
 have hr0:=hr (2000016,2000096);generalize g (2000016,2000096)=y at*;obtain⟨v,n⟩:=y;have ez:((0:Nat):Int)=0:=rfl;simp only[NR,OK,ez,List.take_zero,bF,List.take_length,boxes] at hr0;simp only[boxes];generalize l.map af=rb at*;simp (maxSteps:=9^9) [ba,eW.m,eW.b,aa,hr0,er]
theorem b6.al(h:b6.k M)(s:aT)(hs:gJ s):run M 220 [.a (ai s)] []=some (.a (aW s),[]):=by
 obtain⟨h0,k1,k2⟩:=h;have h1:=fc.al k1 s.gone hs.g;have h2:=eW.al k2 s.boxes hs.b hs.i;have er:(s.boxes.map af).length=s.boxes.length:=by simp
 have eg:=aN s.gone;refine aA (b:=b6.m) h0 ⟨0, ?_⟩;simp only[ai,aW,boxes,ints] at*;generalize s.boxes.map af=rb at*;generalize az s.gone=rs at*;simp (maxSteps:=9^9) [ba,b6.m,b6.b,aa,setAt,h1,h2,er,eg]
theorem ep.al(h:ep.k M)(s:aT)(hs: -1000000000≤s.time∧s.time≤1000000000):run M 431 [.a (ai s)] []=some (.a [I (s.time+1),I s.df],[]):=by
 refine aA (b:=ep.m) h ⟨0, ?_⟩;have e5:IntKind.i64.wrap (s.time+1)=s.time+1:=wrap_i64 (by omega) (by omega);simp only[ai,boxes,ints];simp (maxSteps:=9^9) [ba,ep.m,ep.b,aa,setAt,e5]
theorem gr.al(h:gr.k M)(out s:aT)(ho:gJ out)(hs:gJ s):
  run M 441 [.a (ai out),.a (ai s)] []=some (.lN [.a (ai (if a8 out=true then out else s)),.c (.bool (a8 out))],[]):=by
 obtain⟨h0,ko,kc⟩:=h;have h1:=aJ.al ko out ho;have h2:=b6.al kc s hs;have er:(s.boxes.map af).length=s.boxes.length:=by simp
 have eg:=aN s.gone;refine aA (b:=gr.m) h0 ⟨0, ?_⟩;cases c:a8 out with
 |true=>
  rw[c] at h1;rw[if_pos rfl];simp only[ai,aW,boxes,ints] at*;generalize s.boxes.map af=rb at*;generalize az s.gone=rs at*;generalize out.boxes.map af=ob at*;generalize az out.gone=os at*;simp (maxSteps:=9^9) [ba,gr.m,gr.b,aa,setAt,h1]
 |false=>
  rw[c] at h1;rw[if_neg (by simp)];simp only[ai,aW,boxes,ints] at*;generalize s.boxes.map af=rb at*;generalize az s.gone=rs at*;generalize out.boxes.map af=ob at*;generalize az out.gone=os at*;simp (maxSteps:=9^9) [ba,gr.m,gr.b,aa,setAt,h1,h2]
def CJ(g:Int)(b:bA):Bool:=decide (b.gid=g)||oA b g
def Mf(s:aT)(g:Int)(i:Nat)(x:Nat):St:={t:=[(1,.c (I g)),(2,.c (.ptr 2 2000000 0 0)),(8,.c (boxes s.boxes)),(9,.c (I s.boxes.length)),(10,.c (I i))],o:=[(2,⟨2000000,4,true,true,[ai s]⟩)],n:=x}
def Oz(s:aT)(g:Int)(x:Nat):St:={t:=[(1,.c (I g)),(2,.c (.ptr 2 2000000 0 0)),(8,.c (boxes s.boxes)),(9,.c (I s.boxes.length)),(10,.c (I s.boxes.length)),(11,.c (.bool false))],o:=[(2,⟨2000000,4,true,true,[ai s]⟩)],n:=x}
theorem BJ(l:List bA)(g:Int):(mc l g).isSome=l.any fun b=>decide (b.gid=g):=by
 unfold mc;rw[rH]
theorem fQ.al(h:fQ.k M)(s:aT)(g:Int)(hs:gJ s):run M 413 [.a (ai s),.c (I g)] []=some (.c (.bool (oP s g)),[]):=by
 obtain⟨h0,ka,ki⟩:=h;have hbl:=hs.b;have hgl:=hs.g;have h2:=aI.al ki s.gone g (by omega);refine aA (b:=fQ.m) h0 ⟨s.boxes.length+1, ?_⟩;have er:(s.boxes.map af).length=s.boxes.length:=by simp
 obtain⟨g',hr⟩:=iN (f:=ct (run M) (s.boxes.length+1) fQ.l0) s.boxes.length (ub (CJ g) s.boxes) (Mf s g) 4 (.bool true) 0 (Oz s g)
  (fun i hi x c=>by
   rw[j2 _ _ _ hi] at c;have hb:=hs.i _ (aq hi);have h3:=cK.al ka s.boxes[i] g hb.m;have h4:=aI.al ki s.boxes[i].gone g (by have:=hb.g;omega);have e5:=cA (i:=i) (by omega);have a1:∀hh,(s.boxes.map af)[i]'hh=af s.boxes[i]:=by intro hh;simp
   unfold CJ oA at c;simp only[gi,decide_eq_false_iff_not] at c;obtain⟨c0,c1,c2⟩:=c;have c2':decide (g∈s.boxes[i].gone)=false:=decide_eq_false c2;rw[c2'] at h4;have c3:¬(0:Int)≤dO (gg s.boxes[i].ae g):=by
    have:=lG (gg s.boxes[i].ae g);rw[c1] at this;simpa using this
   simp only[Mf,ai,boxes,ints];simp only[af,ae,ints] at h3 h4 a1;generalize dO (gg s.boxes[i].ae g)=z at*;generalize s.boxes.map af=rb at*;generalize s.boxes[i].ae.map ah=rm at*;generalize az s.boxes[i].gone=rg at*;simp (maxSteps:=9^9) [fQ.l0,aa,setAt,hi,c0,h3,h4,c3,e5,er,a1])
  (fun i hi x c=>by
   rw[j2 _ _ _ hi] at c;have hb:=hs.i _ (aq hi);have h3:=cK.al ka s.boxes[i] g hb.m;have h4:=aI.al ki s.boxes[i].gone g (by have:=hb.g;omega);have a1:∀hh,(s.boxes.map af)[i]'hh=af s.boxes[i]:=by intro hh;simp
   unfold CJ oA at c;have c3:=lG (gg s.boxes[i].ae g);simp only[Mf,ai,boxes,ints];simp only[af,ae,ints] at h3 h4 a1;generalize dO (gg s.boxes[i].ae g)=z at*;generalize (gg s.boxes[i].ae g).isSome=w at*;generalize decide (g∈s.boxes[i].gone)=w2 at*;generalize s.boxes.map af=rb at*;generalize s.boxes[i].ae.map ah=rm at*;generalize az s.boxes[i].gone=rg at*;by_cases c0:s.boxes[i].gid=g
   ·simp (maxSteps:=9^9) [fQ.l0,aa,setAt,hi,c0,er,a1]
   rw[decide_eq_false c0] at c;cases w
   ·simp only[decide_eq_false_iff_not] at c3;simp only[Bool.false_or] at c;subst c;simp (maxSteps:=9^9) [fQ.l0,aa,setAt,hi,c0,h3,h4,c3,er,a1]
   ·simp only[decide_eq_true_eq] at c3;simp (maxSteps:=9^9) [fQ.l0,aa,setAt,hi,c0,h3,c3,er,a1])
  (fun x=>by
   simp only[Mf,Oz,ai,boxes,ints];generalize s.boxes.map af=rb at*;simp (maxSteps:=9^9) [fQ.l0])
 have hany:oP s g=((eJ (ub (CJ g) s.boxes) s.boxes.length).isSome||decide (g∈s.gone)):=by
  unfold oP;rw[BJ,←rH];have:s.boxes.any (CJ g)=((s.boxes.any fun b=>decide (b.gid=g))||s.boxes.any fun b=>oA b g):=by
   induction s.boxes with
   |nil=>rfl
   |cons x l ih=>
    simp only[List.any_cons,ih,CJ];cases decide (x.gid=g)<;>cases oA x g<;>simp
  rw[this];generalize (s.boxes.any fun b=>decide (b.gid=g))=p;generalize (s.boxes.any fun b=>oA b g)=q;cases p<;>cases q<;>cases decide (g∈s.gone)<;>rfl
 rw[hany];generalize decide (g∈s.gone)=w2 at*;have ez:((0:Nat):Int)=0:=rfl;cases hq:eJ (ub (CJ g) s.boxes) s.boxes.length with
 |none=>
  simp only[Mf,Oz,hq,lz,ez] at hr;simp only[ai,boxes,ints] at*;simp (maxSteps:=9^9) [ba,fQ.m,fQ.b,h2,hr]
 |some q=>
  simp only[Mf,hq,lz,ez] at hr;simp only[ai,boxes,ints] at*;simp (maxSteps:=9^9) [ba,fQ.m,fQ.b,hr]
theorem pA(h:gr.k M)(s:aT)(i:Nat)(b:bA)(ho:gJ (gW s i b))(hs:gJ s):
  run M 441 [.a [I s.df,I (s.time+1),.sl false 7 ((s.boxes.map af).set i (af b)),ints s.gone],.a (ai s)] []=some (.lN [.a (ai (stamped s i b).1),.c (.bool (stamped s i b).2)],[]):=by
 have h1:=gr.al h (gW s i b) s ho hs;have e:ai (gW s i b)=[I s.df,I (s.time+1),.sl false 7 ((s.boxes.map af).set i (af b)),ints s.gone]:=by simp only[ai,gW,boxes,iU]
 rw[e] at h1;rw[h1];unfold stamped;cases a8 (gW s i b)<;>rfl
theorem fq.al(h:fq.k M)(s:aT)(hs:mN s)(g m f:Int)(x:List UInt8):
  run M 410 [.a (ai s),.c (I g),.c (I m),.c (I f),.c (S x)] []=some (.lN [.a (ai (mP s g m f x).1),.c (.bool (mP s g m f x).2)],[]):=by
 obtain⟨h0,ka,kb,ko,kc,kk,kn,kst⟩:=h;have ht:=hs.time;have e5:IntKind.i64.wrap (s.time+1)=s.time+1:=wrap_i64 (by omega) (by omega);have h1:=gV.al kb s g hs.mT.b;have h2:=aJ.al ko s hs.mT;have h3:=fQ.al kk s m hs.mT;have h4:=b6.al kc s hs.mT;have h5:=ep.al kn s hs.time;have er:(s.boxes.map af).length=s.boxes.length:=by simp
 have eg:=aN s.gone;refine aA (b:=fq.m) h0 ⟨0, ?_⟩;unfold mP;cases c1:a8 s with
 |false=>
  rw[c1] at h2;simp only[au,false_and,if_false];simp only[ai,aW,boxes,ints] at*;generalize s.boxes.map af=rb at*;generalize az s.gone=rs at*;simp (maxSteps:=9^9) [ba,fq.m,fq.b,aa,setAt,h1,h2,h4,er,eg]
 |true=>
  rw[c1] at h2;cases c2:oP s m with
  |true=>
   rw[c2] at h3;simp only[Bool.true_eq_false,and_false,if_false];simp only[ai,aW,boxes,ints] at*;generalize s.boxes.map af=rb at*;generalize az s.gone=rs at*;simp (maxSteps:=9^9) [ba,fq.m,fq.b,aa,setAt,h1,h2,h3,h4,er,eg]
  |false=>
   rw[c2] at h3;rw[if_pos ⟨rfl,rfl⟩];cases c3:mc s.boxes g with
   |none=>
    rw[c3] at h1;rw[mu c3];simp only[ai,aW,boxes,ints,dO] at*;generalize s.boxes.map af=rb at*;generalize az s.gone=rs at*;simp (maxSteps:=9^9) [ba,fq.m,fq.b,aa,setAt,h1,h2,h3,h4,er,eg]
   |some i=>
    rw[c3] at h1;obtain⟨hi,_⟩:=jk c3;rw[mr c3 hi];have hG:=(eT c1).boxes.lY _ (aq hi);have h6:=eI.al ka s.boxes[i] hG.u_ m f x (s.time+1) s.df;have hin:=yz hG.u_ m f x (s.time+1) s.df;have h7:=pA kst s i (lv s.boxes[i] m f x (s.time+1) s.df).1 (n6 hs.mT hi hin (by have:=oC c1;have:=th hG m f x (s.time+1) s.df;omega)) hs.mT;have a1:∀hh,(s.boxes.map af)[i]'hh=af s.boxes[i]:=by intro hh;simp
    have ni:¬(i:Int)<0:=by omega
    generalize lv s.boxes[i] m f x (s.time+1) s.df=A at*;obtain⟨b',ok⟩:=A;generalize stamped s i b'=B at*;obtain⟨s',ok'⟩:=B;have er2:(s'.boxes.map af).length=s'.boxes.length:=by simp
    have eg2:=aN s'.gone;simp only[ai,aW,boxes,ints,dO] at h1 h2 h3 h4 h5 h7 ⊢;simp only[af,cm,ae,ints] at h6 h7 a1;generalize hrb:s.boxes.map af=rb at*;generalize hrs:az s.gone=rs at*;generalize s.boxes[i].ae.map ah=r1 at*;generalize az s.boxes[i].gone=r2 at*;generalize b'.ae.map ah=r3 at*;generalize az b'.gone=r4 at*;cases ok
    ·simp only[au,if_false];simp (maxSteps:=9^9) [ba,fq.m,fq.b,aa,setAt,hi,ni,h1,h2,h3,h4,h5,h6,er,eg,a1];exact⟨hrb.symm,hrs.symm⟩
    ·simp only[if_true];generalize s'.boxes.map af=rb' at*;generalize az s'.gone=rs' at*;simp (maxSteps:=9^9) [ba,fq.m,fq.b,aa,setAt,hi,ni,h1,h2,h3,h4,h5,h6,h7,e5,er,eg,a1]
theorem fg.al(h:fg.k M)(s:aT)(hs:mN s)(g m f:Int):
  run M 428 [.a (ai s),.c (I g),.c (I m),.c (I f)] []=some (.lN [.a (ai (lD s g m f).1),.c (.bool (lD s g m f).2)],[]):=by
 obtain⟨h0,ka,kb,ko,kc,kn,kst⟩:=h;have ht:=hs.time;have e5:IntKind.i64.wrap (s.time+1)=s.time+1:=wrap_i64 (by omega) (by omega);have h1:=gV.al kb s g hs.mT.b;have h2:=aJ.al ko s hs.mT;have h4:=b6.al kc s hs.mT;have h5:=ep.al kn s hs.time;have er:(s.boxes.map af).length=s.boxes.length:=by simp
 have eg:=aN s.gone;refine aA (b:=fg.m) h0 ⟨0, ?_⟩;unfold lD;cases c1:a8 s with
 |false=>
  rw[c1] at h2;simp only[au,if_false];simp only[ai,aW,boxes,ints] at*;generalize s.boxes.map af=rb at*;generalize az s.gone=rs at*;simp (maxSteps:=9^9) [ba,fg.m,fg.b,aa,setAt,h1,h2,h4,er,eg]
 |true=>
  rw[c1] at h2;rw[if_pos rfl];cases c3:mc s.boxes g with
  |none=>
   rw[c3] at h1;rw[mu c3];simp only[ai,aW,boxes,ints,dO] at*;generalize s.boxes.map af=rb at*;generalize az s.gone=rs at*;simp (maxSteps:=9^9) [ba,fg.m,fg.b,aa,setAt,h1,h2,h4,er,eg]
  |some i=>
   rw[c3] at h1;obtain⟨hi,_⟩:=jk c3;rw[mr c3 hi];have hG:=(eT c1).boxes.lY _ (aq hi);have h6:=dV.al ka s.boxes[i] hG.u_ m f (s.time+1) s.df;have hin:=vY hG.u_ m f (s.time+1) s.df;have h7:=pA kst s i (j9 s.boxes[i] m f (s.time+1) s.df).1 (n6 hs.mT hi hin (by have:=oC c1;have:=rZ hG m f (s.time+1) s.df;omega)) hs.mT;have a1:∀hh,(s.boxes.map af)[i]'hh=af s.boxes[i]:=by intro hh;simp
   have ni:¬(i:Int)<0:=by omega
   generalize j9 s.boxes[i] m f (s.time+1) s.df=A at*;obtain⟨b',ok⟩:=A;generalize stamped s i b'=B at*;obtain⟨s',ok'⟩:=B;have er2:(s'.boxes.map af).length=s'.boxes.length:=by simp
   have eg2:=aN s'.gone;simp only[ai,aW,boxes,ints,dO] at h1 h2 h4 h5 h7 ⊢;simp only[af,cm,ae,ints] at h6 h7 a1;generalize hrb:s.boxes.map af=rb at*;generalize hrs:az s.gone=rs at*;generalize s.boxes[i].ae.map ah=r1 at*;generalize az s.boxes[i].gone=r2 at*;generalize b'.ae.map ah=r3 at*;generalize az b'.gone=r4 at*;cases ok
   ·simp only[au,if_false];simp (maxSteps:=9^9) [ba,fg.m,fg.b,aa,setAt,hi,ni,h1,h2,h4,h5,h6,er,eg,a1];exact⟨hrb.symm,hrs.symm⟩
   ·simp only[if_true];generalize s'.boxes.map af=rb' at*;generalize az s'.gone=rs' at*;simp (maxSteps:=9^9) [ba,fg.m,fg.b,aa,setAt,hi,ni,h1,h2,h4,h5,h6,h7,e5,er,eg,a1]
theorem fh.al(h:fh.k M)(s:aT)(hs:mN s)(g m:Int):
  run M 429 [.a (ai s),.c (I g),.c (I m)] []=some (.lN [.a (ai (lK s g m).1),.c (.bool (lK s g m).2)],[]):=by
 obtain⟨h0,kt,kb,ko,kc⟩:=h;have h1:=gV.al kb s g hs.mT.b;have h2:=aJ.al ko s hs.mT;have h4:=b6.al kc s hs.mT;have er:(s.boxes.map af).length=s.boxes.length:=by simp
 have eg:=aN s.gone;refine aA (b:=fh.m) h0 ⟨0, ?_⟩;unfold lK;cases c1:a8 s with
 |false=>
  rw[c1] at h2;simp only[au,if_false];simp only[ai,aW,boxes,ints] at*;generalize s.boxes.map af=rb at*;generalize az s.gone=rs at*;simp (maxSteps:=9^9) [ba,fh.m,fh.b,aa,setAt,h1,h2,h4,er,eg]
 |true=>
  rw[c1] at h2;rw[if_pos rfl];cases c3:mc s.boxes g with
  |none=>
   rw[c3] at h1;rw[mu c3];simp only[ai,aW,boxes,ints,dO] at*;generalize s.boxes.map af=rb at*;generalize az s.gone=rs at*;simp (maxSteps:=9^9) [ba,fh.m,fh.b,aa,setAt,h1,h2,h4,er,eg]
  |some i=>
   rw[c3] at h1;obtain⟨hi,_⟩:=jk c3;rw[mr c3 hi];have hG:=(eT c1).boxes.lY _ (aq hi);have h6:=fY.al kt s.boxes[i] hG.u_ m;have a1:∀hh,(s.boxes.map af)[i]'hh=af s.boxes[i]:=by intro hh;simp
   have ni:¬(i:Int)<0:=by omega
   generalize kL s.boxes[i] m=A at*;obtain⟨b',ok⟩:=A;have es:(s.boxes.set i b').map af=(s.boxes.map af).set i (af b'):=iU;simp only[ai,aW,boxes,ints,dO] at h1 h2 h4 ⊢;simp only[af,cm,ae,ints] at h6 a1 es;cases ok
   ·simp only[au,if_false];generalize s.boxes.map af=rb at*;generalize az s.gone=rs at*;generalize s.boxes[i].ae.map ah=r1 at*;generalize az s.boxes[i].gone=r2 at*;generalize b'.ae.map ah=r3 at*;generalize az b'.gone=r4 at*;simp (maxSteps:=9^9) [ba,fh.m,fh.b,aa,setAt,hi,ni,h1,h2,h4,h6,er,eg,a1]
   ·simp only[if_true,es];clear es;generalize s.boxes.map af=rb at*;generalize az s.gone=rs at*;generalize s.boxes[i].ae.map ah=r1 at*;generalize az s.boxes[i].gone=r2 at*;generalize b'.ae.map ah=r3 at*;generalize az b'.gone=r4 at*;simp (maxSteps:=9^9) [ba,fh.m,fh.b,aa,setAt,hi,ni,h1,h2,h4,h6,er,eg,a1]
theorem ei.al(h:ei.k M)(s:aT)(hs:mN s)(g:Int)(nm:List UInt8)(hn:nm.length≤1048576):
  run M 411 [.a (ai s),.c (I g),.c (S nm)] []=some (.lN [.a (ai (kN s g nm).1),.c (.bool (kN s g nm).2)],[]):=by
 obtain⟨h0,kb,ko,kc,kn,kst,koe⟩:=h;have ht:=hs.time;have h1:=gV.al kb s g hs.mT.b;have h2:=aJ.al ko s hs.mT;have h3:=dW.al kn s nm hs.mT.b;have h4:=b6.al kc s hs.mT;have h5:=ep.al kst s hs.time;have er:(s.boxes.map af).length=s.boxes.length:=by simp
 have eg:=aN s.gone;have e5:IntKind.i64.wrap (s.time+1)=s.time+1:=wrap_i64 (by omega) (by omega);refine aA (b:=ei.m) h0 ⟨0, ?_⟩;unfold kN;cases c1:a8 s with
 |false=>
  rw[c1] at h2;simp only[au,false_and,if_false];simp only[ai,aW,boxes,ints] at*;generalize s.boxes.map af=rb at*;generalize az s.gone=rs at*;simp (maxSteps:=9^9) [ba,ei.m,ei.b,aa,setAt,h1,h2,h4,er,eg]
 |true=>
  rw[c1] at h2;cases c3:mc s.boxes g with
  |none=>
   rw[c3] at h1;have e:(if true=true∧(named s.boxes nm).isSome=false then at_ s g fun i b=>stamped s i (j8 s nm b) else(s,false))=(s,false):=by
    rw[mu c3];split<;>rfl
   rw[e];simp only[ai,aW,boxes,ints,dO] at*;generalize s.boxes.map af=rb at*;generalize az s.gone=rs at*;simp (maxSteps:=9^9) [ba,ei.m,ei.b,aa,setAt,h1,h2,h4,er,eg]
  |some i=>
   rw[c3] at h1;obtain⟨hi,_⟩:=jk c3;have ni:¬(i:Int)<0:=by omega
   have c0:=lG (named s.boxes nm);cases c2:(named s.boxes nm).isSome with
   |true=>
    rw[c2] at c0;simp only[decide_eq_true_eq] at c0;simp only[Bool.true_eq_false,and_false,if_false];generalize dO (named s.boxes nm)=z at*;simp only[ai,aW,boxes,ints,dO] at*;generalize s.boxes.map af=rb at*;generalize az s.gone=rs at*;simp (maxSteps:=9^9) [ba,ei.m,ei.b,aa,setAt,ni,c0,h1,h2,h3,h4,er,eg]
   |false=>
    rw[c2] at c0;simp only[decide_eq_false_iff_not] at c0;rw[if_pos ⟨rfl,rfl⟩,mr c3 hi];have hG:=(eT c1).boxes.lY _ (aq hi);have hin:iL (j8 s nm s.boxes[i]):=⟨hG.u_.m,hG.u_.g,hn,hG.u_.f⟩;have h6:=pA koe s i (j8 s nm s.boxes[i]) (n6 hs.mT hi hin (by have:=oC c1;have:=hG.len;simp only[j8];omega)) hs.mT;have a1:∀hh,(s.boxes.map af)[i]'hh=af s.boxes[i]:=by intro hh;simp
    generalize stamped s i (j8 s nm s.boxes[i])=B at*;obtain⟨s',ok'⟩:=B;generalize dO (named s.boxes nm)=z at*;simp only[ai,aW,boxes,ints,dO] at h1 h2 h3 h4 h5 h6 ⊢;simp only[af,ae,ints,j8] at h6 a1 ⊢;generalize s'.boxes.map af=rb' at*;generalize az s'.gone=rs' at*;generalize s.boxes.map af=rb at*;generalize az s.gone=rs at*;generalize s.boxes[i].ae.map ah=r1 at*;generalize az s.boxes[i].gone=r2 at*;simp (maxSteps:=9^9) [ba,ei.m,ei.b,aa,setAt,hi,ni,c0,h1,h2,h3,h4,h5,h6,e5,er,eg,a1]
theorem sQ(h:bd.k M)(p:List (List T))(x:List T)(q:List (List T))(hl:p.length+(q.length+1)≤1048576):
  run M 442 [.c (.row 0 0 0 (p.length+(q.length+1))),.c (I p.length),.c (I ((p.length:Int)+1))] [(0,⟨0,7,true,false,p++x::q⟩)]=
   some (.c (.row 0 0 0 (p.length+q.length)),[(0,⟨0,7,true,false,p++q++[tf]⟩)]):=by
 refine aA (b:=bd.m) h ⟨0, ?_⟩;obtain⟨q',y,hy,hq'⟩:=DJ x q;have g1:(0:Int)≤(p.length:Int)+1:=by omega
 have g2:¬(p.length:Int)=(p.length:Int)+1:=by omega
 have g3:(p++x::q).take p.length=p:=by simp
 have g4:(p++x::q).drop (p.length+1)=q:=by simp
 have g5:(p++x::q).drop (p.length+q.length)=[y]:=by
  rw[hy,←hq',List.drop_append];simp
 have g6:p.length+(q.length+1)-(p.length+1)=q.length:=by omega
 have g7:(p++x::q).length=p.length+(q.length+1):=by simp
 have g8:p.length+(q.length+1)-(p.length+q.length)=1:=by omega
 have g9:p.length+q.length≤p.length+(q.length+1):=by omega
 have g10:p.length+q.length≤4294967296:=by omega
 have g11:¬p.length+q.length=p.length+(q.length+1):=by omega
 have g12:(p++q++[y]).length=p.length+(q.length+1):=by simp
 have g13:(p++q++[y]).take (p.length+q.length)=p++q:=by rw[←ax,List.take_left]
 have g19:(1:Int)≤(q.length:Int)+1:=by omega
 have g20:1≤q.length+1:=by omega
 have g14:(p++q++[y]).drop (p.length+(q.length+1))=[]:=eO (by rw[g12];omega);have g15:p.length+1≤p.length+(q.length+1):=by omega
 have g16:p.length+q.length+1=p.length+(q.length+1):=by omega
 have g17:(0:Int)≤(p.length:Int)+(q.length:Int):=by omega
 have g18:(0:Int)≤(p.length:Int)+((q.length:Int)+1):=by omega
 have g21:p.length+1+q.length≤p.length+(q.length+1):=by omega
 have g22:1+q.length≤q.length+1:=by omega
 generalize hR:p++x::q=R at*;simp only[bN] at g12 g13 g14;by_cases hq0:q=[]
 ·subst hq0;by_cases hz:p.length=0
  ·have hp:p=[]:=aZ hz;subst hp;simp at g1 g2 g3 g4 g5 g6 g7 g8 g9 g10 g11 g12 g13 g14 g15 g16 g17 g18;simp (maxSteps:=9^9) (disch:=(first|omega|(simp;done)|(simp;omega))) [ba,bd.m,bd.b,g5]
  ·simp at g1 g2 g3 g4 g5 g6 g7 g8 g9 g10 g11 g12 g13 g14 g15 g16 g17 g18;simp (maxSteps:=9^9) (disch:=(first|omega|(simp;done)|(simp;omega))) [ba,bd.m,bd.b,g1,g2,g3,g5,g7,g10,hz]
 ·have g23:((p.length:Int)+(q.length:Int)).toNat=p.length+q.length:=by omega
  have g24:((p.length:Int)+((q.length:Int)+1)).toNat=p.length+(q.length+1):=by omega
  have g25:max ((p.length:Int)+(q.length:Int)) 0≤(p.length:Int)+((q.length:Int)+1):=by omega
  by_cases hz:p.length=0
  ·have hp:p=[]:=aZ hz;subst hp;simp at g1 g2 g3 g4 g5 g6 g7 g8 g9 g10 g11 g12 g13 g14 g15 g16 g17 g18;simp (maxSteps:=9^9) (disch:=(first|omega|(simp;done)|(simp;omega))) [ba,bd.m,bd.b,aa,g4,g5,g7,g10,g18,g20,g22,hq0]
  ·simp (maxSteps:=9^9) (disch:=(first|omega|(simp;done)|(simp;omega))) [ba,bd.m,bd.b,aa,g1,g2,g3,g4,g5,g6,g7,g8,g9,g10,g12,g13,g14,g15,g16,g17,g18,g21,g23,g24,hz,hq0]
theorem tW(h:bd.k M)(r:List (List T))(k:Nat)(hk:k<r.length)(hl:r.length≤1048576):
  run M 442 [.c (.row 0 0 0 r.length),.c (I k),.c (I ((k:Int)+1))] [(0,⟨0,7,true,false,r⟩)]=
   some (.c (.row 0 0 0 (r.length-1)),[(0,⟨0,7,true,false,r.take k++r.drop (k+1)++[tf]⟩)]):=by
 have e:r.take k++r[k]::r.drop (k+1)=r:=by simp
 have:=sQ h (r.take k) r[k] (r.drop (k+1)) (by simp;omega);rw[e] at this;have e1:(r.take k).length=k:=by simp;omega
 have e2:(r.drop (k+1)).length=r.length-(k+1):=by simp
 rw[e1,e2] at this;have e3:k+(r.length-(k+1)+1)=r.length:=by omega
 have e4:k+(r.length-(k+1))=r.length-1:=by omega
 rw[e3,e4] at this;exact this
theorem fZ.al(h:fZ.k M)(s:aT)(hs:mN s)(g:Int):
  run M 412 [.a (ai s),.c (I g)] []=some (.lN [.a (ai (mQ s g).1),.c (.bool (mQ s g).2)],[]):=by
 obtain⟨h0,kb,ko,kp,kc,kd⟩:=h;have h1:=gV.al kb s g hs.mT.b;have h2:=aJ.al ko s hs.mT;have h4:=b6.al kc s hs.mT;have h5:=jG.al kp s.gone g hs.mT.g;have er:(s.boxes.map af).length=s.boxes.length:=by simp
 have eg:=aN s.gone;have hbl:=hs.mT.b;refine aA (b:=fZ.m) h0 ⟨0, ?_⟩;unfold mQ;cases c1:a8 s with
 |false=>
  rw[c1] at h2;simp only[au,false_and,if_false];simp only[ai,aW,boxes,ints] at*;generalize s.boxes.map af=rb at*;generalize az s.gone=rs at*;simp (maxSteps:=9^9) [ba,fZ.m,fZ.b,aa,setAt,h1,h2,h4,er,eg]
 |true=>
  rw[c1] at h2;cases c3:mc s.boxes g with
  |none=>
   rw[c3] at h1;have e:(if true=true∧s.gone.length<20 then at_ s g fun i _=>({s with boxes:=s.boxes.take i++s.boxes.drop (i+1),gone:=ld s.gone g},true) else(s,false))=(s,false):=by
    rw[mu c3];split<;>rfl
   rw[e];simp only[ai,aW,boxes,ints,dO] at*;generalize s.boxes.map af=rb at*;generalize az s.gone=rs at*;simp (maxSteps:=9^9) [ba,fZ.m,fZ.b,aa,setAt,h1,h2,h4,er,eg]
  |some i=>
   rw[c3] at h1;obtain⟨hi,_⟩:=jk c3;have ni:¬(i:Int)<0:=by omega
   by_cases c2:s.gone.length<20
   ·have n2:¬s.gone.length=20:=by omega
    have n3:¬(s.gone.length:Int)=20:=by omega
    rw[if_pos ⟨rfl,c2⟩,mr c3 hi];rw[BY (iI.1 c1).gone] at h5;have h6:=tW kd (s.boxes.map af) i (by rw[er];exact hi) (by rw[er];exact hbl);rw[er] at h6;have e9:=cA (i:=i) (by omega);have e10:(s.boxes.take i++s.boxes.drop (i+1)).map af=(s.boxes.map af).take i++(s.boxes.map af).drop (i+1):=by simp[List.map_take,List.map_drop]
    have e11:((s.boxes.map af).take i++((s.boxes.map af).drop (i+1)++[tf])).take (s.boxes.length-1)=(s.boxes.map af).take i++(s.boxes.map af).drop (i+1):=by
     rw[←bN];exact List.take_left' (by simp;omega)
    have e12:=aN (ld s.gone g);have e13:s.boxes.length≤min i s.boxes.length+(s.boxes.length-(i+1)+1)+1:=by omega
    simp only[ai,aW,boxes,ints,dO,e10] at h1 h2 h4 h5 h6 ⊢;generalize az (ld s.gone g)=rp at*;generalize s.boxes.map af=rb at*;generalize az s.gone=rs at*;simp (maxSteps:=9^9) [ba,fZ.m,fZ.b,aa,setAt,ni,n3,h1,h2,h4,h5,h6,e9,e11,e12,e13,er,eg]
   ·have c2':(s.gone.length:Int)=20:=by have:=(iI.1 c1).nV;omega
    have c2'':s.gone.length=20:=by have:=(iI.1 c1).nV;omega
    simp only[c2,and_false,if_false];simp only[ai,aW,boxes,ints,dO] at*;generalize s.boxes.map af=rb at*;generalize az s.gone=rs at*;simp (maxSteps:=9^9) [ba,fZ.m,fZ.b,aa,setAt,ni,c2'',h1,h2,h4,er,eg]
theorem Kh(p:bA→Bool):∀l:List bA,(∀i (h:i<l.length),i<(l.takeWhile p).length→p l[i]=true)∧(∀h:(l.takeWhile p).length<l.length,p l[(l.takeWhile p).length]=false)
 |[]=>⟨fun i h=>by simp at h,fun h=>by simp at h⟩
 |x::l=>by
  obtain⟨h1,h2⟩:=Kh p l;by_cases c:p x=true
  ·simp only[List.takeWhile_cons,c,if_true,bK];refine⟨fun i h hi=> ?_,fun h=> ?_⟩
   ·cases i with
    |zero=>simpa using c
    |succ i=>simpa using h1 i (by simpa using h) (by omega)
   ·simpa using h2 (by omega)
  ·have c':p x=false:=by simpa using c
   simp only[List.takeWhile_cons,c',au,if_false,dM];exact⟨fun i h hi=>by omega,fun _=>by simpa using c'⟩
theorem FX(p:bA→Bool)(l:List bA):(l.takeWhile p).length≤l.length:=by
 have:=congrArg List.length (List.takeWhile_append_dropWhile (p:=p) (l:=l));simp only[ax] at this;omega
theorem Ii(p:bA→Bool)(l:List bA):l.take (l.takeWhile p).length=l.takeWhile p:=by
 have:=List.takeWhile_append_dropWhile (p:=p) (l:=l);exact(congrArg (List.take _) this.symm).trans (List.take_left' rfl)
theorem Ij(p:bA→Bool)(l:List bA):l.drop (l.takeWhile p).length=l.dropWhile p:=by
 have:=List.takeWhile_append_dropWhile (p:=p) (l:=l);exact(congrArg (List.drop _) this.symm).trans (List.drop_left' rfl)
theorem y0(g:Int):∀l:List bA,(l.Pairwise fun x y=>x.gid<y.gid)→(∀b∈l,b.gid≠g)→
  l.takeWhile (fun b=>decide (b.gid<g))=l.filter (fun b=>decide (b.gid<g))∧l.dropWhile (fun b=>decide (b.gid<g))=l.filter (fun b=>decide (g<b.gid))
 |[],_,_=>⟨rfl,rfl⟩
 |x::l,ha,hn=>by
  rw[List.pairwise_cons] at ha;obtain⟨h1,h2⟩:=y0 g l ha.2 fun b hb=>hn b (bo _ hb)
  have hx:=hn x (bf ..);by_cases c:x.gid<g
  ·have c':¬g<x.gid:=by omega
   simp only[List.takeWhile_cons,List.dropWhile_cons,iX,c,c',decide_true,decide_false,if_true,au,if_false,h1,h2,and_self]
  ·have c':g<x.gid:=by omega
   simp only[List.takeWhile_cons,List.dropWhile_cons,iX,c,c',decide_true,decide_false,if_true,au,if_false];have f1:l.filter (fun b=>decide (b.gid<g))=[]:=List.filter_eq_nil_iff.2 fun b hb=>by have:=ha.1 b hb;simp;omega
   have f2:l.filter (fun b=>decide (g<b.gid))=l:=List.filter_eq_self.2 fun b hb=>by have:=ha.1 b hb;simp;omega
   rw[f1,f2];exact⟨rfl,rfl⟩
structure NX where
 s:aT
 g:Int
 nm:List UInt8
 u3:Nat
 u6:Nat
 u8:Nat
 w2:Nat
 w3:Nat
def MU(c:NX):List (Nat×Ob):=[(3,⟨c.u3,4,true,true,[ai c.s]⟩),(6,⟨c.u6,4,true,true,[oM]⟩),(8,⟨c.u8,4,true,true,[[I c.s.df,I c.s.time,.row 11102 c.w2 0 c.s.boxes.length,.row 11103 c.w3 0 c.s.gone.length]]⟩),(11102,⟨c.w2,7,true,false,c.s.boxes.map af⟩),(11103,⟨c.w3,1,true,false,az c.s.gone⟩)]
def MT(c:NX)(i:Nat)(n:Nat):St:={t:=[(1,.c (I c.g)),(2,.c (S c.nm)),(3,.c (.ptr 3 c.u3 0 0)),(6,.c (.ptr 6 c.u6 0 0)),(8,.c (.ptr 8 c.u8 0 0)),(9,.c (I i))],o:=MU c,n:=n}
def NM(c:NX)(i:Nat)(n:Nat):St:={t:=[(1,.c (I c.g)),(2,.c (S c.nm)),(3,.c (.ptr 3 c.u3 0 0)),(6,.c (.ptr 6 c.u6 0 0)),(8,.c (.ptr 8 c.u8 0 0)),(9,.c (I i)),(41,.c (.bool false))],o:=MU c,n:=n}
theorem I3(k:Nat)(c:NX)(hl:c.s.boxes.length≤1048576):
  ∃f:Nat→Nat,∀n,eZ (ct (run M) k dh.l0) ((c.s.boxes.takeWhile fun b=>decide (b.gid<c.g)).length+1) (MT c 0 n)=some (.exit 0,NM c (c.s.boxes.takeWhile fun b=>decide (b.gid<c.g)).length (f n)):=by
 have er:(c.s.boxes.map af).length=c.s.boxes.length:=by simp
 have htl:=FX (fun b:bA=>decide (b.gid<c.g)) c.s.boxes;obtain⟨t1,t2⟩:=Kh (fun b:bA=>decide (b.gid<c.g)) c.s.boxes;generalize (c.s.boxes.takeWhile fun b=>decide (b.gid<c.g)).length=at' at*;exact ky (f:=ct (run M) k dh.l0) at' (MT c) 0 (NM c at')
  (fun i hi n=>by
   have hi2:i<c.s.boxes.length:=by omega
   have q:=t1 i hi2 hi;simp only[decide_eq_true_eq] at q;have e5:=cA (i:=i) (by omega);have a1:∀hh,(c.s.boxes.map af)[i]'hh=af c.s.boxes[i]:=by intro hh;simp
   simp only[MT,MU,ai,boxes,ints];simp only[af,ae,ints] at a1;generalize c.s.boxes.map af=rb at*;generalize az c.s.gone=rs at*;generalize c.s.boxes[i].ae.map ah=r1 at*;generalize az c.s.boxes[i].gone=r2 at*;simp (maxSteps:=9^9) [dh.l0,hi2,q,e5,er,a1])
  (fun n=>by
   simp only[MT,NM,MU,ai,boxes,ints];by_cases c9:at'<c.s.boxes.length
   ·have q:=t2 c9;simp only[decide_eq_false_iff_not] at q;have a1:∀hh,(c.s.boxes.map af)[at']'hh=af c.s.boxes[at']:=by intro hh;simp
    simp only[af,ae,ints] at a1;generalize c.s.boxes.map af=rb at*;generalize az c.s.gone=rs at*;generalize c.s.boxes[at'].ae.map ah=r1 at*;generalize az c.s.boxes[at'].gone=r2 at*;simp (maxSteps:=9^9) [dh.l0,c9,q,er,a1]
   ·generalize c.s.boxes.map af=rb at*;generalize az c.s.gone=rs at*;simp (maxSteps:=9^9) [dh.l0,c9])
theorem EW{s:aT}{g:Int}(h:oP s g=false):∀b∈s.boxes,b.gid≠g:=by
 intro b hb e;unfold oP at h;rw[BJ] at h;simp only[gi,List.any_eq_false,decide_eq_true_eq] at h;exact h.1.1 b hb e
theorem Jr(h:M 440=some (.ext CN))(r:List (List T))(x:List T)(i:Nat)(hi:i≤r.length)(hl:r.length≤1048576):
  run M 440 [.c (.row 0 0 0 r.length),.c (I i),.c (.row 2 2 0 1)] [(0,⟨0,7,true,false,r⟩),(2,⟨2,7,true,false,[x]⟩)]=some (.c (.sl true 7 (r.take i++[x]++r.drop i)),[(2,⟨2,7,true,false,[x]⟩)]):=by
 refine zZ h ?_;have h1:(0:Int)≤(i:Int):=by omega
 have h2:(i:Int)≤(r.length:Int):=by omega
 simp only[CN,fy,bZ,Nat.le_refl,h1,h2,hl,and_self,if_true,List.take_length]
theorem dh.al(h:dh.k M)(s:aT)(hs:mN s)(g:Int)(nm:List UInt8)(hn:nm.length≤1048576):
  run M 409 [.a (ai s),.c (I g),.c (S nm)] []=some (.lN [.a (ai (mo s g nm).1),.c (.bool (mo s g nm).2)],[]):=by
 obtain⟨h0,ko,kc,kn,kk,kst,ki,koe⟩:=h;have ht:=hs.time;have hbl:=hs.mT.b;have h2:=aJ.al ko s hs.mT;have h3:=dW.al kn s nm hs.mT.b;have h7:=fQ.al kk s g hs.mT;have h4:=b6.al kc s hs.mT;have h5:=ep.al kst s hs.time;have er:(s.boxes.map af).length=s.boxes.length:=by simp
 have eg:=aN s.gone;have e5:IntKind.i64.wrap (s.time+1)=s.time+1:=wrap_i64 (by omega) (by omega);have c0:=lG (named s.boxes nm);refine aA (b:=dh.m) h0 ⟨(s.boxes.takeWhile fun b=>decide (b.gid<g)).length+1, ?_⟩;unfold mo;cases c1:a8 s with
 |false=>
  rw[c1] at h2;simp only[au,false_and,if_false];simp only[ai,aW,boxes,ints] at*;generalize s.boxes.map af=rb at*;generalize az s.gone=rs at*;simp (maxSteps:=9^9) [ba,dh.m,dh.b,aa,setAt,h2,h4,er,eg]
 |true=>
  rw[c1] at h2;cases c2:oP s g with
  |true=>
   rw[c2] at h7;simp only[Bool.true_eq_false,false_and,and_false,if_false];simp only[ai,aW,boxes,ints] at*;generalize s.boxes.map af=rb at*;generalize az s.gone=rs at*;simp (maxSteps:=9^9) [ba,dh.m,dh.b,aa,setAt,h2,h4,h7,er,eg]
  |false=>
   rw[c2] at h7;cases c3:(named s.boxes nm).isSome with
   |true=>
    rw[c3] at c0;simp only[decide_eq_true_eq] at c0;simp only[Bool.true_eq_false,and_false,if_false];generalize dO (named s.boxes nm)=z at*;simp only[ai,aW,boxes,ints] at*;generalize s.boxes.map af=rb at*;generalize az s.gone=rs at*;simp (maxSteps:=9^9) [ba,dh.m,dh.b,aa,setAt,c0,h2,h3,h4,h7,er,eg]
   |false=>
    rw[c3] at c0;simp only[decide_eq_false_iff_not] at c0;rw[if_pos ⟨rfl,rfl,rfl⟩];have h6:=gr.al koe (gC s g nm) s (zk c1 g nm hn) hs.mT;obtain⟨f,r1⟩:=I3 (M:=M) ((s.boxes.takeWhile fun b=>decide (b.gid<g)).length+1) ⟨s,g,nm,2000000,2000016,2000080,2000066,2000067⟩ hbl;have hat:=FX (fun b:bA=>decide (b.gid<g)) s.boxes;have h8:=Jr ki (s.boxes.map af) (af (kE s g nm)) (s.boxes.takeWhile fun b=>decide (b.gid<g)).length (by rw[er];exact hat) (by rw[er];exact hbl);have em:(gC s g nm).boxes.map af=(s.boxes.map af).take (s.boxes.takeWhile fun b=>decide (b.gid<g)).length++[af (kE s g nm)]++(s.boxes.map af).drop (s.boxes.takeWhile fun b=>decide (b.gid<g)).length:=by
     obtain⟨f1,f2⟩:=y0 g s.boxes (iI.1 c1).Ku (EW c2);rw[←List.map_take,←List.map_drop,Ii,Ij,f1,f2];simp[gC]
    rw[←em,er] at h8;have el:((gC s g nm).boxes.map af).length=s.boxes.length+1:=by rw[em];simp;omega
    have ez:((0:Nat):Int)=0:=rfl;have ew:(gC s g nm).df=s.df:=rfl;have et:(gC s g nm).time=s.time+1:=rfl;have egn:(gC s g nm).gone=s.gone:=rfl;have en:af (kE s g nm)=[I g,S nm,I (s.time+1),I s.df,I 1,.sl false 4 [],.sl false 1 []]:=by simp[kE,af,az]
    have hres:(if a8 (gC s g nm)=true then(gC s g nm,true) else(s,false))=((if a8 (gC s g nm)=true then gC s g nm else s),a8 (gC s g nm)):=by
     cases a8 (gC s g nm)<;>rfl
    rw[hres];generalize hX:(if a8 (gC s g nm)=true then gC s g nm else s)=X at*;generalize a8 (gC s g nm)=wX at*;have hr0:=r1 2000352;clear em hX;simp only[MT,NM,MU,ez] at hr0;simp only[ai,aW,boxes,ints,ew,et,egn,en] at h2 h3 h4 h5 h6 h7 h8 hr0 ⊢;generalize (gC s g nm).boxes.map af=rm at*;generalize X.boxes.map af=rx at*;generalize az X.gone=gx at*;generalize dO (named s.boxes nm)=z at*;generalize s.boxes.map af=rb at*;generalize az s.gone=rs at*;generalize (s.boxes.takeWhile fun b=>decide (b.gid<g)).length=at' at*;simp (maxSteps:=9^9) [ba,dh.m,dh.b,aa,setAt,c0,h2,h3,h4,h5,h6,h7,h8,hr0,e5,er,eg,el]
def xP(s t:aT):aT×Bool:=if t.df=s.df∨lA s t=false then(s,false) else(dD s t,true)
def iS(s:aT)(c:gv):aT×Bool:=
 if kJ c=false then(s,false) else
 if c.kind=1 then mo s c.box c.text else if c.kind=2 then kN s c.box c.text else if c.kind=3 then mQ s c.box else
 if c.kind=4 then mP s c.box c.gid c.flags c.text else if c.kind=5 then lD s c.box c.gid c.flags else if c.kind=6 then lK s c.box c.gid else
 xP s (gL c.text).1
theorem s4(l:List UInt8):gJ (gL l).1:=by
 cases h:(gL l).2 with
 |true=>exact(lj (ua h).1).mT
 |false=>
  have:(gL l).1=lh:=by
   unfold gL at h ⊢;split
   ·rename_i c;rw[if_pos c] at h;cases h
   ·rfl
  rw[this];exact⟨by simp[lh],by simp[lh],by simp[lh],by simp[lh]⟩
theorem cY.al(h:cY.k M)(s:aT)(hs:mN s)(c:gv)(hc:c.text.length≤1048576):
  run M 469 [.a (ai s),.a (b8 c)] []=some (.lN [.a (ai (iS s c).1),.c (.bool (iS s c).2)],[]):=by
 obtain⟨h0,kco,krs,kcs,kmb,kpm,krb,kdb,kmm,kdm,kfs,kjs⟩:=h;have h1:=aO.al kco c hc;have h2:=b6.al kcs s hs.mT;have e1:=dh.al kmb s hs c.box c.text hc;have e2:=ei.al krb s hs c.box c.text hc;have e3:=fZ.al kdb s hs c.box;have e4:=fq.al kpm s hs c.box c.gid c.flags c.text;have e5:=fg.al kmm s hs c.box c.gid c.flags;have e6:=fh.al kdm s hs c.box c.gid;have h3:=bI.al krs c.text hc;have hri:=s4 c.text;have h4:=fw.al kfs s (gL c.text).1 hs.mT hri;refine aA (b:=cY.m) h0 ⟨0, ?_⟩;unfold iS;cases ck:kJ c with
 |false=>
  rw[ck] at h1;rw[if_pos rfl];simp only[ai,aW,boxes,ints] at h1 h2 ⊢;generalize s.boxes.map af=rb at*;generalize az s.gone=rs at*;simp (maxSteps:=9^9) [ba,cY.m,cY.b,aa,setAt,h1,h2]
 |true=>
  rw[ck] at h1;rw[if_neg (by simp)];by_cases k1:c.kind=1
  ·rw[if_pos k1];simp only[b8,k1] at h1;generalize mo s c.box c.text=y at*;obtain⟨y,o⟩:=y;simp only[ai,boxes,ints] at h1 e1 ⊢;generalize y.boxes.map af=yb at*;generalize az y.gone=ys at*;generalize s.boxes.map af=rb at*;generalize az s.gone=rs at*;simp (maxSteps:=9^9) [ba,cY.m,cY.b,aa,setAt,h1,e1,k1]
  rw[if_neg k1];by_cases k2:c.kind=2
  ·rw[if_pos k2];simp only[b8,k2] at h1;generalize kN s c.box c.text=y at*;obtain⟨y,o⟩:=y;simp only[ai,boxes,ints] at h1 e2 ⊢;generalize y.boxes.map af=yb at*;generalize az y.gone=ys at*;generalize s.boxes.map af=rb at*;generalize az s.gone=rs at*;simp (maxSteps:=9^9) [ba,cY.m,cY.b,aa,setAt,h1,e2,k2]
  rw[if_neg k2];by_cases k3:c.kind=3
  ·rw[if_pos k3];simp only[b8,k3] at h1;generalize mQ s c.box=y at*;obtain⟨y,o⟩:=y;simp only[ai,boxes,ints] at h1 e3 ⊢;generalize y.boxes.map af=yb at*;generalize az y.gone=ys at*;generalize s.boxes.map af=rb at*;generalize az s.gone=rs at*;simp (maxSteps:=9^9) [ba,cY.m,cY.b,aa,setAt,h1,e3,k3]
  rw[if_neg k3];by_cases k4:c.kind=4
  ·rw[if_pos k4];simp only[b8,k4] at h1;generalize mP s c.box c.gid c.flags c.text=y at*;obtain⟨y,o⟩:=y;simp only[ai,boxes,ints] at h1 e4 ⊢;generalize y.boxes.map af=yb at*;generalize az y.gone=ys at*;generalize s.boxes.map af=rb at*;generalize az s.gone=rs at*;simp (maxSteps:=9^9) [ba,cY.m,cY.b,aa,setAt,h1,e4,k4]
  rw[if_neg k4];by_cases k5:c.kind=5
  ·rw[if_pos k5];simp only[b8,k5] at h1;generalize lD s c.box c.gid c.flags=y at*;obtain⟨y,o⟩:=y;simp only[ai,boxes,ints] at h1 e5 ⊢;generalize y.boxes.map af=yb at*;generalize az y.gone=ys at*;generalize s.boxes.map af=rb at*;generalize az s.gone=rs at*;simp (maxSteps:=9^9) [ba,cY.m,cY.b,aa,setAt,h1,e5,k5]
  rw[if_neg k5];by_cases k6:c.kind=6
  ·rw[if_pos k6];simp only[b8,k6] at h1;generalize lK s c.box c.gid=y at*;obtain⟨y,o⟩:=y;simp only[ai,boxes,ints] at h1 e6 ⊢;generalize y.boxes.map af=yb at*;generalize az y.gone=ys at*;generalize s.boxes.map af=rb at*;generalize az s.gone=rs at*;simp (maxSteps:=9^9) [ba,cY.m,cY.b,aa,setAt,h1,e6,k6]
  rw[if_neg k6];generalize (gL c.text).1=t at*;generalize (gL c.text).2=r2 at*;unfold xP;by_cases w:t.df=s.df
  ·rw[if_pos (.inl w)];have w':t.df=s.df:=w;simp only[ai,aW,boxes,ints] at h1 h2 h3 ⊢;generalize t.boxes.map af=tb at*;generalize az t.gone=ts at*;generalize s.boxes.map af=rb at*;generalize az s.gone=rs at*;simp (maxSteps:=9^9) [ba,cY.m,cY.b,aa,setAt,h1,h2,h3,k1,k2,k3,k4,k5,k6,w]
  cases ft:lA s t with
  |false=>
   rw[if_pos (.inr rfl)];rw[ft] at h4;simp only[ai,aW,boxes,ints] at h1 h2 h3 h4 ⊢;generalize t.boxes.map af=tb at*;generalize az t.gone=ts at*;generalize s.boxes.map af=rb at*;generalize az s.gone=rs at*;simp (maxSteps:=9^9) [ba,cY.m,cY.b,aa,setAt,h1,h2,h3,h4,k1,k2,k3,k4,k5,k6,w]
  |true=>
   rw[if_neg (by simp[w])];rw[ft] at h4;unfold lA at ft;simp only[aj] at ft;have h5:=bG.al kjs s t (eT ft.1.1) (eT ft.1.2);have jw:(dD s t).df=s.df:=rfl;have jt:(dD s t).time=Max.max s.time t.time:=rfl;clear ft;generalize dD s t=J at*;simp only[ai,aW,boxes,ints,jw,jt] at h1 h2 h3 h4 h5 ⊢;generalize Max.max s.time t.time=tm at*;generalize J.boxes.map af=jb at*;generalize az J.gone=js at*;generalize t.boxes.map af=tb at*;generalize az t.gone=ts at*;generalize s.boxes.map af=rb at*;generalize az s.gone=rs at*;simp (maxSteps:=9^9) [ba,cY.m,cY.b,aa,setAt,h1,h3,h4,h5,k1,k2,k3,k4,k5,k6,w]
theorem cF.al(h:cF.k M)(s:aT)(hs:mN s)(c:gv)(hc:c.text.length≤1048576):
  run M 468 [.a (ai s),.a (b8 c)] []=some (.lN [.a (ai (iS s c).1),.c (.bool (iS s c).2)],[]):=by
 obtain⟨h0,kco,krs,kcs,kmb,kpm,kmm,kdm,krb,kdb,kfs,kjs⟩:=h;have h1:=aX.al kco c hc;have h2:=cu.al kcs s hs.mT;have e1:=b4.al kmb s hs c.box c.text hc;have e2:=cL.al krb s hs c.box c.text hc;have e3:=dK.al kdb s hs c.box;have e4:=dI.al kpm s hs c.box c.gid c.flags c.text;have e5:=dA.al kmm s hs c.box c.gid c.flags;have e6:=dB.al kdm s hs c.box c.gid;have h3:=bl.al krs c.text hc;have hri:=s4 c.text;have h4:=fu.al kfs s (gL c.text).1 hs.mT hri;refine aA (b:=cF.m) h0 ⟨0, ?_⟩;unfold iS;cases ck:kJ c with
 |false=>
  rw[ck] at h1;rw[if_pos rfl];simp only[ai,aW,boxes,ints] at h1 h2 ⊢;generalize s.boxes.map af=rb at*;generalize az s.gone=rs at*;simp (maxSteps:=9^9) [ba,cF.m,cF.b,aa,setAt,h1,h2]
 |true=>
  rw[ck] at h1;rw[if_neg (by simp)];by_cases k1:c.kind=1
  ·rw[if_pos k1];simp only[b8,k1] at h1;generalize mo s c.box c.text=y at*;obtain⟨y,o⟩:=y;simp only[ai,aW,boxes,ints] at h1 e1 ⊢;generalize y.boxes.map af=yb at*;generalize az y.gone=ys at*;generalize s.boxes.map af=rb at*;generalize az s.gone=rs at*;simp (maxSteps:=9^9) [ba,cF.m,cF.b,aa,setAt,h1,e1,k1]
  rw[if_neg k1];by_cases k2:c.kind=2
  ·rw[if_pos k2];simp only[b8,k2] at h1;generalize kN s c.box c.text=y at*;obtain⟨y,o⟩:=y;simp only[ai,aW,boxes,ints] at h1 e2 ⊢;generalize y.boxes.map af=yb at*;generalize az y.gone=ys at*;generalize s.boxes.map af=rb at*;generalize az s.gone=rs at*;simp (maxSteps:=9^9) [ba,cF.m,cF.b,aa,setAt,h1,e2,k2]
  rw[if_neg k2];by_cases k3:c.kind=3
  ·rw[if_pos k3];simp only[b8,k3] at h1;generalize mQ s c.box=y at*;obtain⟨y,o⟩:=y;simp only[ai,aW,boxes,ints] at h1 e3 ⊢;generalize y.boxes.map af=yb at*;generalize az y.gone=ys at*;generalize s.boxes.map af=rb at*;generalize az s.gone=rs at*;simp (maxSteps:=9^9) [ba,cF.m,cF.b,aa,setAt,h1,e3,k3]
  rw[if_neg k3];by_cases k4:c.kind=4
  ·rw[if_pos k4];simp only[b8,k4] at h1;generalize mP s c.box c.gid c.flags c.text=y at*;obtain⟨y,o⟩:=y;simp only[ai,aW,boxes,ints] at h1 e4 ⊢;generalize y.boxes.map af=yb at*;generalize az y.gone=ys at*;generalize s.boxes.map af=rb at*;generalize az s.gone=rs at*;simp (maxSteps:=9^9) [ba,cF.m,cF.b,aa,setAt,h1,e4,k4]
  rw[if_neg k4];by_cases k5:c.kind=5
  ·rw[if_pos k5];simp only[b8,k5] at h1;generalize lD s c.box c.gid c.flags=y at*;obtain⟨y,o⟩:=y;simp only[ai,aW,boxes,ints] at h1 e5 ⊢;generalize y.boxes.map af=yb at*;generalize az y.gone=ys at*;generalize s.boxes.map af=rb at*;generalize az s.gone=rs at*;simp (maxSteps:=9^9) [ba,cF.m,cF.b,aa,setAt,h1,e5,k5]
  rw[if_neg k5];by_cases k6:c.kind=6
  ·rw[if_pos k6];simp only[b8,k6] at h1;generalize lK s c.box c.gid=y at*;obtain⟨y,o⟩:=y;simp only[ai,aW,boxes,ints] at h1 e6 ⊢;generalize y.boxes.map af=yb at*;generalize az y.gone=ys at*;generalize s.boxes.map af=rb at*;generalize az s.gone=rs at*;simp (maxSteps:=9^9) [ba,cF.m,cF.b,aa,setAt,h1,e6,k6]
  rw[if_neg k6];generalize (gL c.text).1=t at*;generalize (gL c.text).2=r2 at*;unfold xP;by_cases w:t.df=s.df
  ·rw[if_pos (.inl w)];have w':t.df=s.df:=w;simp only[ai,aW,boxes,ints] at h1 h2 h3 ⊢;generalize t.boxes.map af=tb at*;generalize az t.gone=ts at*;generalize s.boxes.map af=rb at*;generalize az s.gone=rs at*;simp (maxSteps:=9^9) [ba,cF.m,cF.b,aa,setAt,h1,h2,h3,k1,k2,k3,k4,k5,k6,w]
  cases ft:lA s t with
  |false=>
   rw[if_pos (.inr rfl)];rw[ft] at h4;simp only[ai,aW,boxes,ints] at h1 h2 h3 h4 ⊢;generalize t.boxes.map af=tb at*;generalize az t.gone=ts at*;generalize s.boxes.map af=rb at*;generalize az s.gone=rs at*;simp (maxSteps:=9^9) [ba,cF.m,cF.b,aa,setAt,h1,h2,h3,h4,k1,k2,k3,k4,k5,k6,w]
  |true=>
   rw[if_neg (by simp[w])];rw[ft] at h4;unfold lA at ft;simp only[aj] at ft;have h5:=bQ.al kjs s t (eT ft.1.1) (eT ft.1.2);have jw:(dD s t).df=s.df:=rfl;have jt:(dD s t).time=Max.max s.time t.time:=rfl;clear ft;generalize dD s t=J at*;simp only[ai,aW,boxes,ints,jw,jt] at h1 h2 h3 h4 h5 ⊢;generalize Max.max s.time t.time=tm at*;generalize J.boxes.map af=jb at*;generalize az J.gone=js at*;generalize t.boxes.map af=tb at*;generalize az t.gone=ts at*;generalize s.boxes.map af=rb at*;generalize az s.gone=rs at*;simp (maxSteps:=9^9) [ba,cF.m,cF.b,aa,setAt,h1,h3,h4,h5,k1,k2,k3,k4,k5,k6,w]
end Mx
namespace Mx
open Go
variable {M:Nat→Option Body}
def wF(a b:aT):Bool:=decide (a.df=b.df)&&decide (a.time=b.time)&&alike a b
theorem fV.al(h:fV.k M)(a b:aT)(ha:sO a):run M 421 [.a (ai a),.a (ai b)] []=some (.c (.bool (wF a b)),[]):=by
 obtain⟨h0,ka⟩:=h;have h1:=dg.al ka a b ha;refine aA (b:=fV.m) h0 ⟨0, ?_⟩;unfold wF;generalize alike a b=z at*;simp only[ai,boxes,ints] at h1 ⊢;generalize a.boxes.map af=ra at*;generalize az a.gone=ga at*;generalize b.boxes.map af=rb at*;generalize az b.gone=gb at*;by_cases c1:a.df=b.df
 ·by_cases c2:a.time=b.time
  ·simp only[c1,c2] at h1;simp (maxSteps:=9^9) [ba,fV.m,fV.b,ab,h1,c1,c2]
  ·simp (maxSteps:=9^9) [ba,fV.m,fV.b,ab,c1,c2]
 ·simp (maxSteps:=9^9) [ba,fV.m,fV.b,ab,c1]
theorem fp.in(h:fp.k M){b:bA}(c:fE b=true):run M 123 [.a [I b.gid,S b.name,I b.time,I b.df,I b.next,ae b.ae,ints b.gone]] []=some (.c (S (oX b)),[]):=fp.al h b c
def Nr(s:aT)(i:Nat)(t:List UInt8)(x:Nat×Nat):St:={t:=[(1,.c (.ptr 1 x.1 0 0)),(4,.c (S t)),(20,.c (boxes s.boxes)),(21,.c (I s.boxes.length)),(22,.c (I i))],o:=[(1,⟨x.1,4,true,true,[ai s]⟩)],n:=x.2}
def N7(s:aT)(t:List UInt8)(x:Nat×Nat):St:={t:=[(1,.c (.ptr 1 x.1 0 0)),(4,.c (S t)),(20,.c (boxes s.boxes)),(21,.c (I s.boxes.length)),(22,.c (I s.boxes.length)),(23,.c (.bool false))],o:=[(1,⟨x.1,4,true,true,[ai s]⟩)],n:=x.2}
theorem dj.al(h:dj.k M)(s:aT)(hs:gJ s):run M 61 [.a (ai s)] []=some (.lN [.c (S (gK s).1),.c (.bool (gK s).2)],[]):=by
 obtain⟨h0,kse,kb,ko,kv⟩:=h;have h1:=aJ.al ko s hs;refine aA (b:=dj.m) h0 ⟨s.boxes.length+1, ?_⟩;simp only[ai] at h1;unfold gK;cases c:a8 s
 ·rw[c] at h1;simp (maxSteps:=9^9) [ba,dj.m,dj.b,ab,h1]
 rw[c] at h1;obtain⟨v1,v2,v3,v4,v5,v6,_⟩:=nZ c;have g1:=fW.al kv [s.df,s.time,(s.boxes.length:Int)] (by simp) (by simp;exact⟨v1,v2,by unfold isVar;omega⟩);have g2:=fW.al kv [(s.gone.length:Int)] (by simp) (by simp;unfold isVar;omega);have g3:=fW.al kv s.gone (by omega) v5;have l1:=cz v1;have l2:=cz v2;have l8:=jc (n:=s.gone.length) (by omega);have l9:=jJ cZ s.gone 10 fun n hn=>cz (v5 n hn)
 have l10:=jJ oX s.boxes 11000 fun b hb=>qu (v6 b hb)
 have hp:=wY c;obtain⟨g,hr⟩:=nu (f:=ct (run M) (s.boxes.length+1) dj.l0) s.boxes oX 11000 30 (fun b hb=>qu (v6 b hb)) (Nr s) 0 (N7 s)
  (fun i hi t x ht=>by
   obtain⟨v,x⟩:=x;have e5:=cA (i:=i) (by omega);have hx:=v6 _ (aq hi);have h6:=fp.in kb hx;have h7:=qu hx;simp only[aE];have e6:=bL t (oX s.boxes[i]) (by omega);simp (maxSteps:=9^9) [dj.l0,setAt,Nr,hi,h6,e5,e6,af])
  (fun t x=>by
   obtain⟨v,x⟩:=x;simp only[aE];simp (maxSteps:=9^9) [dj.l0,Nr,N7]) (mi s) hp
 have q1:texts cZ [s.df,s.time,(s.boxes.length:Int)]=mi s:=by simp[texts,mi,cZ]
 have q2:texts cZ [(s.gone.length:Int)]=gE s.gone.length:=by simp[texts,cZ]
 rw[q1] at g1;rw[q2] at g2;have e8:=bL (mi s++texts oX s.boxes) (gE s.gone.length) (by simp;omega);have e9:=bL (mi s++texts oX s.boxes++gE s.gone.length) (texts cZ s.gone) (by simp;omega);have hse:=iY.al kse (storeT s) (by simp only[storeT,ax];omega);simp only[storeT] at hse ⊢;simp only[bN] at e8 e9 hse;simp only[ints,az,bq,bF] at g1 g2;simp[Nr,N7] at hr;generalize mi s=p at*;generalize texts oX s.boxes=q at*;generalize texts cZ s.gone=r at*;simp (maxSteps:=9^9) [ba,dj.m,dj.b,ab,hr,h1,g1,g2,g3,e8,e9,hse,aa]
def p7(a b:aT):Bool:=decide ((gK a).1=(gK b).1)
theorem gY.al(h:gY.k M)(a b:aT)(ha:gJ a)(hb:gJ b):run M 63 [.a (ai a),.a (ai b)] []=some (.c (.bool (p7 a b)),[]):=by
 obtain⟨h0,k1⟩:=h;have h1:=dj.al k1 a ha;have h2:=dj.al k1 b hb;refine aA (b:=gY.m) h0 ⟨0, ?_⟩;unfold p7;simp only[ai] at h1 h2;simp (maxSteps:=9^9) [ba,gY.m,gY.b,ab,h1,h2]
theorem yK(s:aT):(gK s).1.length≤20004:=by
 unfold gK;split
 ·unfold mm;split
  ·simp
  ·simp[four];omega
 ·simp
end Mx
namespace Mx
open Go
attribute [-simp] ct step my ly oR oW iO
variable {M:Nat→Option Body}
def pY:List (List UInt8):=[[105,110,98,111,120],[119,111,114,107],[111,108,100]]
def Aa:List (List UInt8):=[[110,101,119],[105,110,98,111,120],[111,116,104,101,114]]
theorem xz{s:List UInt8}(h:s∈pY):s.length≤20004:=by
 have:∀t∈pY,t.length≤5:=by decide
 have:=this s h;omega
theorem CD{s:List UInt8}(h:s∈Aa):s.length≤20004:=by
 have:∀t∈Aa,t.length≤5:=by decide
 have:=this s h;omega
def Fe:List T:=[I 0,I 0,I 0,I 0,S []]
def yD(e:List (Nat×V))(eo:List (Nat×Ob))(R:List (List T))(s:aT)(g b m:Int)(ic:Nat)(q:Int)(n:Nat):St:={t:=([(0,.c (.ptr 0 0 0 0)),(2,.c (I g)),(4,.c (.ptr 4 2000000 0 0)),(6,.c (.ptr 6 2000016 0 0)),(7,.c (I b)),(8,.c (I m))]:List (Nat×V))++e,o:=([iG R ic q,(4,⟨2000000,4,true,true,[ai s]⟩),(6,⟨2000016,5,true,true,[Fe]⟩)]:List (Nat×Ob))++eo,n:=n}
def yE(R:List (List T))(c:gv)(ic:Nat)(q:Int)(n:Nat):St:={t:=[(6,.c (.ptr 6 2000016 0 0))],o:=[iG R ic q,(6,⟨2000016,5,true,true,[b8 c]⟩)],n:=n}
theorem xL(kt:ch.k M)(kn:fI.k M)(kb:bu.k M)(kx:gF.k M)(kp:eG.k M)(ku:bc.k M){R:List (List T)}(hR:Bytes R)
  (s:aT) (hw:1≤s.df∧s.df≤2) (g b m:Int) (i:Nat) (q:Int) (hi:i≤R.length) (n:Nat) (e:List (Nat×V)) (eo:List (Nat×Ob)):
  ∃(c:gv) (i':Nat) (q':Int) (n':Nat),c.text.length≤20004∧i'≤R.length∧ct (run M) 0 bB.tl (yD e eo R s g b m i q n)=some (.ret,yE R c i' q' n'):=by
 obtain⟨k,i1,q1,hk,hi1,h1⟩:=bu.al kb hR i q hi 12 (by omega) (by omega);simp only[bO] at h1;by_cases c1:b=0∨k=0
 ·obtain⟨x,i2,q2,hx,hi2,h2⟩:=eG.al kp hR i1 q1 hi1 pY (by decide) (by decide);suffices hh:∃n',ct (run M) 0 bB.tl (yD e eo R s g b m i q n)=some (.ret,yE R ⟨1,g,0,0,x⟩ i2 q2 n') by
   obtain⟨n',hh⟩:=hh;exact⟨_,_,_,n',xz hx,hi2,hh⟩
  simp only[iG,pY,bq,bF] at h1 h2;simp only[yD,yE,Fe,iG,b8,ai,boxes,ints];by_cases c2:b=0
  ·simp (maxSteps:=9^9) [bB.tl,aa,setAt,h1,h2,c2]
  ·have c3:k=0:=c1.resolve_left c2;subst c3;have e0:((0:Nat):Int)=0:=rfl;simp only[e0] at h1;simp (maxSteps:=9^9) [bB.tl,aa,setAt,h1,h2,c2]
 have c2:¬b=0:=fun e=>c1 (.inl e)
 have c3:¬k=0:=fun e=>c1 (.inr e)
 have c3':¬(k:Int)=0:=by omega
 by_cases d1:k<5∨m=0
 ·obtain⟨f,i2,q2,hf,hi2,h2⟩:=bu.al kb hR i1 q1 hi1 8 (by omega) (by omega);obtain⟨x,i3,q3,hx,hi3,h3⟩:=gF.al kx hR i2 q2 hi2;suffices hh:∃n',ct (run M) 0 bB.tl (yD e eo R s g b m i q n)=some (.ret,yE R ⟨4,b,g,f,x⟩ i3 q3 n') by
   obtain⟨n',hh⟩:=hh;exact⟨_,_,_,n',by simp only;omega,hi3,hh⟩
  simp only[iG,bO] at h1 h2 h3;simp only[yD,yE,Fe,iG,b8,ai,boxes,ints];by_cases d2:k<5
  ·have d2':(k:Int)<5:=by omega
   simp (maxSteps:=9^9) [bB.tl,setAt,h1,h2,h3,c2,c3,d2']
  ·have d2':¬(k:Int)<5:=by omega
   have d3:m=0:=d1.resolve_left d2;simp (maxSteps:=9^9) [bB.tl,setAt,h1,h2,h3,c2,c3,d2',d3]
 have d2:¬k<5:=fun e=>d1 (.inl e)
 have d2':¬(k:Int)<5:=by omega
 have d3:¬m=0:=fun e=>d1 (.inr e)
 by_cases e1:k<8
 ·have e1':(k:Int)<8:=by omega
  obtain⟨f,i2,q2,hf,hi2,h2⟩:=bu.al kb hR i1 q1 hi1 8 (by omega) (by omega);suffices hh:∃n',ct (run M) 0 bB.tl (yD e eo R s g b m i q n)=some (.ret,yE R ⟨5,b,m,f,[]⟩ i2 q2 n') by
   obtain⟨n',hh⟩:=hh;exact⟨_,_,_,n',by simp,hi2,hh⟩
  simp only[iG,bO] at h1 h2;simp only[yD,yE,Fe,iG,b8,ai,boxes,ints];simp (maxSteps:=9^9) [bB.tl,setAt,h1,h2,c2,c3,d2',d3,e1']
 have e1':¬(k:Int)<8:=by omega
 by_cases e2:k=8
 ·subst e2;suffices hh:∃n',ct (run M) 0 bB.tl (yD e eo R s g b m i q n)=some (.ret,yE R ⟨6,b,m,0,[]⟩ i1 q1 n') by
   obtain⟨n',hh⟩:=hh;exact⟨_,_,_,n',by simp,hi1,hh⟩
  simp only[iG,bO] at h1;simp only[yD,yE,Fe,iG,b8,ai,boxes,ints];simp (maxSteps:=9^9) [bB.tl,setAt,h1,c2,d3]
 have e2':¬(k:Int)=8:=by omega
 by_cases e3:k=9
 ·subst e3;obtain⟨x,i2,q2,hx,hi2,h2⟩:=eG.al kp hR i1 q1 hi1 Aa (by decide) (by decide);suffices hh:∃n',ct (run M) 0 bB.tl (yD e eo R s g b m i q n)=some (.ret,yE R ⟨2,b,0,0,x⟩ i2 q2 n') by
   obtain⟨n',hh⟩:=hh;exact⟨_,_,_,n',CD hx,hi2,hh⟩
  simp only[iG,Aa,bq,bF,bO] at h1 h2;simp only[yD,yE,Fe,iG,b8,ai,boxes,ints];simp (maxSteps:=9^9) [bB.tl,aa,setAt,h1,h2,c2,d3]
 have e3':¬(k:Int)=9:=by omega
 by_cases e4:k=10
 ·subst e4;suffices hh:∃n',ct (run M) 0 bB.tl (yD e eo R s g b m i q n)=some (.ret,yE R ⟨3,b,0,0,[]⟩ i1 q1 n') by
   obtain⟨n',hh⟩:=hh;exact⟨_,_,_,n',by simp,hi1,hh⟩
  simp only[iG,bO] at h1;simp only[yD,yE,Fe,iG,b8,ai,boxes,ints];simp (maxSteps:=9^9) [bB.tl,setAt,h1,c2,d3]
 have e4':¬(k:Int)=10:=by omega
 have hw3:IntKind.i64.wrap (3-s.df)=3-s.df:=wrap_i64 (by omega) (by omega);have h2:=fI.al kn (3-s.df);obtain⟨t,w,i2,q2,ht,hw2,hi2,h3⟩:=bc.al ku hR i1 q1 hi1 true 0 ⟨3-s.df,0,[],[]⟩ (Em (by omega) (by omega) true) 5 700 (by omega) (by omega);have hww:=hw2 rfl (by omega);subst hww;have h4:=ch.al kt t (lj ht.ok).mT;have l1:=yK t;suffices hh:∃n',ct (run M) 0 bB.tl (yD e eo R s g b m i q n)=some (.ret,yE R ⟨7,0,0,0,(gK t).1⟩ i2 q2 n') by
  obtain⟨n',hh⟩:=hh;exact⟨_,_,_,n',l1,hi2,hh⟩
 generalize gK t=tt at*;obtain⟨tt,ok⟩:=tt;simp only[iG,bO] at h1 h3;simp only[ai,vg,boxes,ints,bF,nJ] at h3 h4;simp only[yD,yE,Fe,iG,b8,ai,boxes,ints];generalize t.boxes.map af=tb at*;generalize az t.gone=tg at*;simp (maxSteps:=9^9) [bB.tl,setAt,h1,h2,h3,h4,hw3,c2,c3,d2',d3,e1',e2',e3',e4']
theorem bB.al(h:bB.k M){R:List (List T)}(hR:Bytes R)(i:Nat)(q:Int)(hi:i≤R.length)(s:aT)(hs:Eb s)(hw:1≤s.df∧s.df≤2)(g:Int):
  ∃(c:gv) (i':Nat) (q':Int),c.text.length≤20004∧i'≤R.length∧run M 519 [.c (.ptr 0 0 0 0),.a (ai s),.c (I g)] [iG R i q]=some (.a (b8 c),[iG R i' q']):=by
 obtain⟨h0,kt,kn,kb,kx,kp,ku⟩:=h;have er:(s.boxes.map af).length=s.boxes.length:=by simp
 by_cases c1:0<s.boxes.length;rotate_left
 ·obtain⟨c,i1,q1,n1,hc,hi1,h1⟩:=xL kt kn kb kx kp ku hR s hw g 0 0 i q hi 2000128 [(16,.c (.bool false))] [];refine⟨c,i1,q1,hc,hi1,aA (b:=bB.m) h0 ⟨0, ?_⟩⟩;simp only[yD,yE,Fe,iG,b8,ai,boxes,ints,List.cons_append,List.nil_append] at h1 ⊢;generalize s.boxes.map af=rb at*;generalize az s.gone=rs at*;simp (maxSteps:=9^9) [ba,bB.m,bB.b,aa,h1,er,c1]
 obtain⟨y,i1,q1,hy,hi1,h1⟩:=bu.al kb hR i q hi s.boxes.length c1 (by have:=hs.b;omega);have hB:=hs.box _ (aq hy);have a1:∀hh,(s.boxes.map af)[y]'hh=af s.boxes[y]:=by intro hh;simp
 have em:(s.boxes[y].ae.map ah).length=s.boxes[y].ae.length:=by simp
 by_cases c2:0<s.boxes[y].ae.length;rotate_left
 ·obtain⟨c,i2,q2,n2,hc,hi2,h2⟩:=xL kt kn kb kx kp ku hR s hw g s.boxes[y].gid 0 i1 q1 hi1 2000416 [(9,.c (.ptr 9 2000272 0 0)),(31,.c (.bool false))] [(9,⟨2000272,7,true,true,[af s.boxes[y]]⟩)];refine⟨c,i2,q2,hc,hi2,aA (b:=bB.m) h0 ⟨0, ?_⟩⟩;simp only[yD,yE,Fe,iG,b8,ai,af,boxes,ae,ints,List.cons_append,List.nil_append] at h1 h2 a1 ⊢;generalize s.boxes.map af=rb at*;generalize az s.gone=rs at*;generalize s.boxes[y].ae.map ah=rm at*;generalize az s.boxes[y].gone=rg at*;simp (maxSteps:=9^9) [ba,bB.m,bB.b,aa,setAt,h1,h2,er,em,hy,a1,c1,c2]
 obtain⟨z,i2,q2,hz,hi2,h2⟩:=bu.al kb hR i1 q1 hi1 s.boxes[y].ae.length c2 (by have:=hB.m;omega);have a2:∀hh:z<(s.boxes[y].ae.map ah).length,(s.boxes[y].ae.map ah)[z]'hh=ah s.boxes[y].ae[z]:=by intro hh;simp
 obtain⟨c,i3,q3,n3,hc,hi3,h3⟩:=xL kt kn kb kx kp ku hR s hw g s.boxes[y].gid s.boxes[y].ae[z].gid i2 q2 hi2 2000592 [] [];refine⟨c,i3,q3,hc,hi3,aA (b:=bB.m) h0 ⟨0, ?_⟩⟩;simp only[yD,yE,Fe,iG,b8,ai,af,ah,boxes,ae,ints,List.cons_append,List.nil_append] at h1 h2 h3 a1 a2 ⊢;generalize s.boxes.map af=rb at*;generalize az s.gone=rs at*;generalize s.boxes[y].ae.map ah=rm at*;generalize az s.boxes[y].gone=rg at*;simp (maxSteps:=9^9) [ba,bB.m,bB.b,aa,setAt,h1,h2,h3,er,em,hy,hz,a1,a2,c1,c2]
theorem Ch{s:aT}(h:gJ s):sO s:=⟨h.b,h.g,fun b hb=>⟨(h.i b hb).m,(h.i b hb).g,(h.i b hb).f⟩⟩
theorem ok_eq{s:aT}(h:a8 s=true):sO s:=Ch (lj h).mT
theorem zW(s:aT):wF s s=true:=by simp[wF,alike]
theorem sW(h:fV.k M){s:aT}(hs:sO s):run M 421 [.a (ai s),.a (ai s)] []=some (.c (.bool true),[]):=by
 have:=fV.al h s s hs
 rwa [zW] at this
end Mx
namespace Mx
open Go
theorem II{s:aT}(h:a8 s=true):Eb s:=by
 have G:=iI.1 h;exact Dn ⟨by have:=G.time;omega,by have:=G.time;omega⟩ G.len (by have:=G.nV;omega) fun b hb=>(G.box b hb).1.Kz
theorem CZ{c:gv}(h:kJ c=true)(k:¬c.kind=7):1≤c.box∧c.box≤9999:=by
 unfold kJ at h;rw[if_neg k] at h;simp only[aj,j_,decide_eq_true_eq] at h;omega
theorem JF{s:aT}(h:a8 s=true)(c:gv):a8 (iS s c).1=true:=by
 unfold iS;cases ck:kJ c with
 |false=>rw[if_pos rfl];exact h
 |true=>
  rw[if_neg (by simp)];split;·exact tz h ..
  split;·exact tZ h ..
  split
  ·rename_i k;exact tI h (CZ ck (by omega))
  split;·exact xy h ..
  split;·exact vO h ..
  split;·exact r_ h ..
  unfold xP;split
  ·exact h
  ·rename_i q;have:lA s (gL c.text).1=true:=by
    cases z:lA s (gL c.text).1 with
    |true=>rfl
    |false=>exact(q (.inr z)).elim
   unfold lA at this;simp only[aj] at this;exact this.2
theorem Hc(s:aT)(c:gv):(iS s c).1.df=s.df:=by
 have hst:∀(i:Nat) (b:bA),(stamped s i b).1.df=s.df:=by
  intro i b;unfold stamped;split<;>rfl
 have hat:∀(g:Int) (f:Nat→bA→aT×Bool),(∀i b,(f i b).1.df=s.df)→(at_ s g f).1.df=s.df:=by
  intro g f hf;unfold at_;split
  ·rfl
  ·split
   ·rfl
   ·exact hf _ _
 unfold iS;split;·rfl
 split
 ·unfold mo;split
  ·split<;>rfl
  ·rfl
 split
 ·unfold kN;split
  ·exact hat _ _ fun i b=>hst _ _
  ·rfl
 split
 ·unfold mQ;split
  ·exact hat _ _ fun i b=>rfl
  ·rfl
 split
 ·unfold mP;split
  ·refine hat _ _ fun i b=> ?_
   split
   ·exact hst _ _
   ·rfl
  ·rfl
 split
 ·unfold lD;split
  ·refine hat _ _ fun i b=> ?_
   split
   ·exact hst _ _
   ·rfl
  ·rfl
 split
 ·unfold lK;split
  ·refine hat _ _ fun i b=> ?_
   split<;>rfl
  ·rfl
 unfold xP;split<;>rfl
def g_:aT→List gv→aT×Nat
 |s,[]=>(s,0)
 |s,c::l=>((g_ (iS s c).1 l).1,(if(iS s c).2 then 1 else 0)+(g_ (iS s c).1 l).2)
theorem pI(c:gv):∀(l:List gv) (s:aT),g_ s (l++[c])=((iS (g_ s l).1 c).1,(g_ s l).2+if(iS (g_ s l).1 c).2 then 1 else 0)
 |[],s=>by simp only[List.nil_append,g_,Nat.zero_add,Nat.add_zero];rfl
 |d::l,s=>by
  rw[List.cons_append,g_,pI c l,g_];simp only[Nat.add_assoc]
theorem CW{l:List gv}(s:aT){i:Nat}(hi:i<l.length):g_ s (l.take (i+1))=((iS (g_ s (l.take i)).1 l[i]).1,(g_ s (l.take i)).2+if(iS (g_ s (l.take i)).1 l[i]).2 then 1 else 0):=by
 rw[List.take_succ_eq_append_getElem hi,pI]
theorem sd:∀(l:List gv) {s:aT},a8 s=true→a8 (g_ s l).1=true
 |[],_,h=>h
 |c::l,_,h=>sd l (JF h c)
theorem vj:∀(l:List gv) (s:aT),(g_ s l).1.df=s.df
 |[],_=>rfl
 |c::l,s=>(vj l _).trans (Hc s c)
theorem BB:∀(l:List gv) (s:aT),(g_ s l).2≤l.length
 |[],_=>Nat.le_refl _
 |c::l,s=>by
  have:=BB l (iS s c).1;simp only[g_,bK];split<;>omega
def new(w:Int):aT:=⟨w,0,[],[]⟩
theorem ph{w:Int}(h1:1≤w)(h2:w≤2):a8 ⟨w,0,[],[]⟩=true:=(wS h1 h2).ok
theorem CQ{w g:Int}(h1:1≤w)(h2:w≤2)(hg:1≤g∧g≤9999){x:List UInt8}(hx:x∈pY):(iS ⟨w,0,[],[]⟩ ⟨1,g,0,0,x⟩).2=true:=by
 have hn:nF x=true:=by
  have:∀t∈pY,nF t=true:=by decide
  exact this x hx
 have hc:kJ ⟨1,g,0,0,x⟩=true:=by
  simp[kJ,j_,tn,hn,hg.1,hg.2]
 unfold iS;rw[if_neg (by rw[hc];simp),if_pos rfl];have hs:=ph h1 h2;have G:=iI.1 hs;have hk:oP ⟨w,0,[],[]⟩ g=false:=by
  cases c:oP ⟨w,0,[],[]⟩ g with
  |false=>rfl
  |true=>have:=EV.1 c;simp[Kn] at this
 have hnm:(named (⟨w,0,[],[]⟩:aT).boxes x).isSome=false:=rfl;have hb:(gC ⟨w,0,[],[]⟩ g x).boxes=[kE ⟨w,0,[],[]⟩ g x]:=by simp[gC]
 have hok:a8 (gC ⟨w,0,[],[]⟩ g x)=true:=by
  refine iI.2 ⟨G.df,⟨by simp only[gC];omega,by simp only[gC];omega⟩,by rw[hb];simp,G.gone,G.xW,G.nV, ?_,by rw[hb];exact List.pairwise_singleton ..,by rw[hb];exact List.pairwise_singleton ..,by rw[hb];simp[b_,kE]⟩;rw[hb];intro b hbm;rw[List.mem_singleton.1 hbm];refine⟨⟨hg,hn,by simp[kM,j_,kE];omega,by simp[kE],by simp[kE],List.Pairwise.nil,by simp[kE],by simp[kE],by simp[kE],List.Pairwise.nil,List.Pairwise.nil⟩,by simp[gC], ?_⟩;simp[late,kE,gC]
 unfold mo;rw[if_pos ⟨hs,hk,hnm⟩,if_pos hok]
structure mh where
 store:aT
 cw:List UInt8
 saved:Int
def DL(w:Int):mh:=⟨new w,[],0⟩
def vi(k:mh)(c:gv):mh×Bool:=
 if(iS k.store c).2=false∨(kH c).2=false∨(kq (kH c).1).2=false∨20000<k.cw.length+(kq (kH c).1).1.length then(k,false)
 else(⟨(iS k.store c).1,k.cw++(kq (kH c).1).1,k.saved⟩,true)
structure qz (w:Int) (cs:List gv) (m:Nat) (k:mh):Prop where
 ok:∀c∈cs,kJ c=true∧qc (jY c)
 store:k.store=(g_ (new w) cs).1
 cw:k.cw=iP (cs.map jY)
 len:k.cw.length≤20000
 MH:m≤cs.length
 saved:k.saved=(iP ((cs.map jY).take m)).length
theorem EX(w:Int):qz w [] 0 (DL w):=⟨fun _ h=>absurd h (by simp),rfl,rfl,by simp[DL],Nat.le_refl _,rfl⟩
theorem GA{w:Int}{cs:List gv}{m:Nat}{k:mh}(h:qz w cs m k)(c:gv):∃cs',qz w cs' m (vi k c).1:=by
 unfold vi;split
 ·exact⟨cs,h⟩
 ·rename_i q;simp only[not_or,Bool.not_eq_false] at q;obtain⟨q1,q2,q3,q4⟩:=q;rw[AG] at q2;rw[BF q2] at q3 q4 ⊢;simp only at q3 q4 ⊢;have hr:qc (jY c):=by
   unfold kq at q3;split at q3
   ·rename_i z;exact z
   ·cases q3
  rw[sZ hr] at q4 ⊢;refine⟨cs++[c],fun d hd=> ?_, ?_, ?_, ?_, ?_, ?_⟩
  ·rcases List.mem_append.1 hd with z|z
   ·exact h.ok d z
   ·rw[List.mem_singleton.1 z];exact⟨q2,hr⟩
  ·rw[pI];simp only;rw[h.store]
  ·simp only[cg,qV,h.cw];simp[iP]
  ·simp only[ax] at q4 ⊢;omega
  ·have:=h.MH;simp only[ax];omega
  ·simp only;rw[h.saved,cg,List.take_append_of_le_length (by rw[de];exact h.MH)]
theorem xM{w:Int}{cs:List gv}{m:Nat}{k:mh}(h:qz w cs m k):qz w cs cs.length {k with saved:=k.cw.length}:=
 ⟨h.ok,h.store,h.cw,h.len,Nat.le_refl _,by simp only;rw[h.cw,aa (by simp)]⟩
def jV(j:List UInt8):List gv×Bool:=
 (((nv j).1.filter fun t=>(j1 t).2).map fun t=>(j1 t).1,decide ((nv j).2=j.length)&&(nv j).1.all fun t=>(j1 t).2)
def Ai(k:mh):Bool:=(jV k.cw).2&&a8 k.store&&j_ 0 k.saved k.cw.length&&p7 (g_ (new k.store.df) (jV k.cw).1).1 k.store
def nK(k:mh):Nat:=if 0≤k.saved∧k.saved≤k.cw.length then k.saved.toNat else 0
def jC(k:mh)(cut:Int):List UInt8:=k.cw.take (nK k+min (max 0 cut).toNat (k.cw.length-nK k))
def lJ(k:mh)(cut:Int):mh:=
 ⟨(g_ (new k.store.df) (jV ((jC k cut).take (nv (jC k cut)).2)).1).1,(jC k cut).take (nv (jC k cut)).2,(nv (jC k cut)).2⟩
theorem yq{cs:List gv}(h:∀c∈cs,kJ c=true∧qc (jY c)):jV (iP (cs.map jY))=(cs,true):=by
 have hr:nv (iP (cs.map jY))=(cs.map jY,(iP (cs.map jY)).length):=Cz fun t ht=>by
  obtain⟨c,hc,rfl⟩:=List.mem_map.1 ht;exact(h c hc).2
 unfold jV;rw[hr];have h1:∀t∈cs.map jY,(j1 t).2=true:=fun t ht=>by
  obtain⟨c,hc,rfl⟩:=List.mem_map.1 ht;rw[s5 (h c hc).1]
 refine Prod.ext ?_ ?_
 ·simp only;rw[List.filter_eq_self.2 h1,List.map_map]
  conv=>rhs;rw[←List.map_id cs]
  refine List.map_congr_left fun c hc=> ?_
  simp only[Function.comp,id,s5 (h c hc).1]
 ·simp only[decide_true,Bool.true_and];exact List.all_eq_true.2 h1
theorem sa{w:Int}{cs:List gv}:(g_ (new w) cs).1.df=w:=vj cs _
theorem xN{w:Int}{cs:List gv}{m:Nat}{k:mh}(h:qz w cs m k)(cut:Int):
  ∃i,m≤i∧i≤cs.length∧qz w (cs.take i) i (lJ k cut)∧(lJ k cut).cw=k.cw.take (lJ k cut).cw.length∧k.saved≤(lJ k cut).cw.length∧(lJ k cut).cw.length≤k.cw.length:=by
 have hok:∀t∈cs.map jY,qc t:=fun t ht=>by
  obtain⟨c,hc,rfl⟩:=List.mem_map.1 ht;exact(h.ok c hc).2
 have hsl:(iP ((cs.map jY).take m)).length≤k.cw.length:=by
  have:=mH (ts:=cs.map jY) (i:=m) (k:=(cs.map jY).length) (by rw[de];exact h.MH);rw[List.take_length] at this;rw[h.cw];exact this
 have hf:nK k=(iP ((cs.map jY).take m)).length:=by
  unfold nK;rw[h.saved,if_pos ⟨by omega,by omega⟩];omega
 obtain⟨n,hn⟩:∃n,n=nK k+min (max 0 cut).toNat (k.cw.length-nK k):=⟨_,rfl⟩
 have hn1:n≤k.cw.length:=by omega
 have hn2:(iP ((cs.map jY).take m)).length≤n:=by omega
 have hl:jC k cut=(iP (cs.map jY)).take n:=by unfold jC;rw[←hn,h.cw]
 rw[h.cw] at hn1;obtain⟨i,h1,h2,h3,h4⟩:=A9 hok hn1;rw[de] at h1;have him:m≤i:=by
  by_cases c:m≤i
  ·exact c
  ·have h5:=h4 (by rw[de];have:=h.MH;omega);have:=mH (ts:=cs.map jY) (i:=i+1) (k:=m) (by omega);omega
 have e1:((iP (cs.map jY)).take n).take (iP ((cs.map jY).take i)).length=iP ((cs.take i).map jY):=by
  rw[List.take_take,Nat.min_eq_left h3,uj,List.map_take]
 have hw:k.store.df=w:=by rw[h.store];exact sa
 have e:lJ k cut=⟨(g_ (new w) (cs.take i)).1,iP ((cs.take i).map jY),(iP ((cs.take i).map jY)).length⟩:=by
  unfold lJ;rw[hl,h2,hw];simp only;rw[e1,yq (fun c hc=>h.ok c (List.mem_of_mem_take hc))];simp only[List.map_take]
 have hle:(iP ((cs.take i).map jY)).length≤k.cw.length:=by
  have:=mH (ts:=cs.map jY) (i:=i) (k:=(cs.map jY).length) (by rw[de];omega);rw[List.take_length] at this;rw[h.cw,List.map_take];exact this
 refine⟨i,him,h1, ?_, ?_, ?_, ?_⟩
 ·rw[e];exact⟨fun c hc=>h.ok c (List.mem_of_mem_take hc),rfl,rfl,by have:=h.len;simp only;omega,by simp;omega,by
   rw[List.map_take];simp only[List.take_take,Nat.min_self]⟩
 ·rw[e];simp only;rw[h.cw,List.map_take,uj]
 ·rw[e,h.saved];simp only;rw[List.map_take];have:=mH (ts:=cs.map jY) him;omega
 ·rw[e];exact hle
theorem vT{w:Int}{cs:List gv}{k:mh}(h:qz w cs cs.length k)(cut:Int):lJ k cut=k:=by
 obtain⟨i,h1,h2,h3,h4,h5,h6⟩:=xN h cut;have hi:i=cs.length:=by omega
 subst hi;rw[List.take_length] at h3;obtain⟨s,j,v⟩:=k;cases hk:lJ ⟨s,j,v⟩ cut with
 |mk s' j' v'=>
  rw[hk] at h3;have a1:=h.store;have a2:=h3.store;have a3:=h.cw;have a4:=h3.cw;have a5:=h.saved;have a6:=h3.saved;simp only at a1 a2 a3 a4 a5 a6;rw[a1,a2,a3,a4,a5,a6]
theorem nU{w:Int}(hw:1≤w∧w≤2){cs:List gv}{m:Nat}{k:mh}(h:qz w cs m k):a8 k.store=true∧Ai k=true:=by
 have hs:a8 k.store=true:=by rw[h.store];exact sd cs (ph hw.1 hw.2)
 refine⟨hs, ?_⟩;have hwho:k.store.df=w:=by rw[h.store];exact sa
 have hsl:(iP ((cs.map jY).take m)).length≤k.cw.length:=by
  have:=mH (ts:=cs.map jY) (i:=m) (k:=(cs.map jY).length) (by rw[de];exact h.MH);rw[List.take_length] at this;rw[h.cw];exact this
 unfold Ai;rw[h.cw,yq h.ok,←h.cw,hs,hwho,←h.store];have e1:p7 k.store k.store=true:=decide_eq_true rfl;have e2:j_ 0 k.saved k.cw.length=true:=by
  unfold j_;rw[aj,decide_eq_true_eq,decide_eq_true_eq,h.saved];omega
 rw[e1,e2];rfl
end Mx
namespace Mx
open Go
attribute [-simp] ct step my ly oR oW iO
variable {M:Nat→Option Body}
def No:List T:=[I 0,I 0,.aK 7,.aK 1]
abbrev calls(l:List gv):T:= .sl false 5 (l.map b8)
def Na(d:aT)(x:Nat×Nat×Nat):List (Nat×Ob):=[(4,⟨x.1,4,true,true,[No]⟩),(6,⟨x.2.1,4,true,true,[ai d]⟩)]
def M_(l:List gv)(d:aT×Nat)(i:Nat)(x:Nat×Nat×Nat):List (Nat×V):=[(4,.c (.ptr 4 x.1 0 0)),(6,.c (.ptr 6 x.2.1 0 0)),(7,.c (I d.2)),(14,.c (calls l)),(15,.c (I l.length)),(16,.c (I i))]
def NP(s:aT)(l:List gv)(i:Nat)(x:Nat×Nat×Nat):St:={t:=M_ l (g_ s (l.take i)) i x,o:=Na (g_ s (l.take i)).1 x,n:=x.2.2}
def OI(s:aT)(l:List gv)(x:Nat×Nat×Nat):St:={t:=M_ l (g_ s l) l.length x++[(17,.c (.bool false))],o:=Na (g_ s l).1 x,n:=x.2.2}
theorem gU.al(h:gU.k M)(s:aT)(hs:a8 s=true)(l:List gv)(hl:l.length≤4294967295)(hc:∀c∈l,c.text.length≤1048576):
  run M 451 [.a (ai s),.c (calls l)] []=some (.lN [.a (ai (g_ s l).1),.c (I (g_ s l).2)],[]):=by
 obtain⟨h0,kc,kd⟩:=h;have h1:=b6.al kc s (lj hs).mT;have er:(l.map b8).length=l.length:=by simp
 obtain⟨g,hr⟩:=ky (f:=ct (run M) (l.length+1) gU.l0) l.length (NP s l) 0 (OI s l)
  (fun i hi x=>by
   have hok:a8 (g_ s (l.take i)).1=true:=sd _ hs;have h2:=cY.al kd (g_ s (l.take i)).1 (lj hok) l[i] (hc _ (aq hi));have a1:∀hh,(l.map b8)[i]'hh=b8 l[i]:=by intro hh;simp
   have e5:=cA (i:=i) (by omega);have hm:=BB (l.take i) s;rw[eD] at hm;have hi2:(i:Int)<l.length:=by omega
   simp only[NP,M_,Na,CW s hi,aE];generalize g_ s (l.take i)=d at*;obtain⟨d,m⟩:=d;simp only at h2 hm ⊢;generalize iS d l[i]=y at*;obtain⟨y,ok⟩:=y;have e6:=cA (i:=m) (by omega);simp only[ai,boxes,ints,b8,No,calls] at h2 a1 ⊢;generalize d.boxes.map af=r1 at*;generalize az d.gone=r2 at*;generalize y.boxes.map af=r3 at*;generalize az y.gone=r4 at*;cases ok with
   |true=>simp (maxSteps:=9^9) [gU.l0,dP,aa,setAt,bL,h2,a1,er,hi,hi2,e5,e6]
   |false=>simp (maxSteps:=9^9) [gU.l0,dP,aa,setAt,bL,h2,a1,er,hi,hi2,e5,e6])
  (fun x=>by
   simp only[NP,OI,M_,Na,List.take_length,aE];simp only[ai,boxes,ints,No,calls];generalize g_ s l=d at*;simp (maxSteps:=9^9) [gU.l0,dP,aa,setAt,bL,er])
 refine aA (b:=gU.m) h0 ⟨l.length+1, ?_⟩;simp only[NP,OI,M_,Na,List.take_zero,g_,Prod.forall] at hr;simp only[ai,aW,boxes,ints,No,calls] at hr h1 ⊢;generalize g_ s l=d at*;generalize s.boxes.map af=r1 at*;generalize az s.gone=r2 at*;generalize d.1.boxes.map af=r3 at*;generalize az d.1.gone=r4 at*;have e0:((0:Nat):Int)=0:=rfl;simp only[e0] at hr;simp (maxSteps:=9^9) [ba,gU.m,gU.b,dP,aa,setAt,bL,h1,hr,er]
abbrev jy(k:mh):List T:=[I k.store.df,I k.store.time,boxes k.store.boxes,ints k.store.gone,S k.cw,I k.saved]
theorem gQ.al(h:gQ.k M)(a:Int):run M 114 [.c (I a)] []=some (.a [I a,I 0,.sl true 7 [],.sl true 1 []],[]):=by
 refine aA (b:=gQ.m) h ⟨0, ?_⟩;simp (maxSteps:=9^9) [ba,gQ.m,gQ.b,dP,aa,setAt,bL,uQ]
theorem jd.al(h:jd.k M)(a:Int):run M 24 [.c (I a)] []=some (.a [I a,I 0,.sl false 7 [],.sl false 1 [],S [],I 0],[]):=by
 have h1:=fI.al h.2 a;refine aA (b:=jd.m) h.1 ⟨0, ?_⟩;simp (maxSteps:=9^9) [ba,jd.m,jd.b,dP,aa,setAt,bL,uQ,h1]
def yF(ts:List (List UInt8)):List gv:=(ts.filter fun t=>(j1 t).2).map fun t=>(j1 t).1
theorem Hf{ts:List (List UInt8)}{i:Nat}(hi:i<ts.length):yF (ts.take (i+1))=yF (ts.take i)++if(j1 ts[i]).2=true then [(j1 ts[i]).1] else []:=by
 rw[List.take_succ_eq_append_getElem hi];unfold yF;rw[List.filter_append,cg];congr 1;split
 ·rename_i c;simp[c]
 ·rename_i c;simp[c]
theorem AE(ts:List (List UInt8)):(yF ts).length≤ts.length:=by
 unfold yF;rw[de];exact bP ..
theorem BD{ts:List (List UInt8)}(h:∀t∈ts,t.length≤1048576):∀c∈yF ts,c.text.length≤1048576:=by
 intro c hc;obtain⟨t,ht,rfl⟩:=List.mem_map.1 hc;have:=h t (List.mem_filter.1 ht).1;have:=z7 t;omega
def H5(ts:List (List UInt8))(b:Bool)(i:Nat):Bool:=b&&(ts.take i).all fun t=>(j1 t).2
theorem Hg{ts:List (List UInt8)}(b:Bool){i:Nat}(hi:i<ts.length):H5 ts b (i+1)=(H5 ts b i&&(j1 ts[i]).2):=by
 unfold H5;rw[List.take_succ_eq_append_getElem hi,List.all_append];simp[Bool.and_assoc]
def Nc(ts:List (List UInt8))(i:Nat)(x:Nat×Nat):List (Nat×Ob):=[(17,⟨x.1,5,true,false,(yF (ts.take i)).map b8⟩)]
def Nb(ts:List (List UInt8))(b:Bool)(i:Nat)(x:Nat×Nat):List (Nat×V):=[(6,.c (.row 17 x.1 0 (yF (ts.take i)).length)),(7,.c (.bool (H5 ts b i))),(22,.c (.sl false 1 (om ts))),(23,.c (I ts.length)),(24,.c (I i))]
def NQ(ts:List (List UInt8))(b:Bool)(i:Nat)(x:Nat×Nat):St:={t:=Nb ts b i x,o:=Nc ts i x,n:=x.2}
def OJ(ts:List (List UInt8))(b:Bool)(x:Nat×Nat):St:={t:=Nb ts b ts.length x++[(25,.c (.bool false))],o:=Nc ts ts.length x,n:=x.2}
theorem vK(l:List UInt8):∀d a acc,(∀t∈acc,t.length≤l.length)→∀t∈(mX l d a acc).1,t.length≤l.length
 |0,a,acc,h=>h
 |d+1,a,acc,h=>by
  rw[mX];split
  ·refine vK l d _ _ fun t ht=> ?_
   rcases List.mem_append.1 ht with z|z
   ·exact h t z
   ·rw[List.mem_singleton.1 z];rename_i c;unfold recAt at c ⊢;split at c
    ·rename_i q;rw[if_pos q];simp only;have:=q.1;unfold c_ at this ⊢;split at this
     ·rename_i r;rw[if_pos r];simp only[eD,List.length_drop];omega
     ·cases this
    ·cases c
  ·exact h
theorem uT(l:List UInt8):∀t∈(nv l).1,t.length≤l.length:=vK l _ _ _ (by simp)
theorem fo.al(h:fo.k M)(j:List UInt8)(hj:j.length≤1048576):
  run M 450 [.c (S j)] []=some (.lN [.c (.sl true 5 ((jV j).1.map b8)),.c (.bool (jV j).2)],[]):=by
 obtain⟨h0,kr,kc⟩:=h;have h1:=cR.al kr j hj;have hle:=qa j (j.length+1) 0 [] (Nat.zero_le _) (by simp);have htx:=uT j;have hrl:(nv j).1.length≤1048576:=by have:=hle.1;simp only[nv];omega
 have e1:jV j=(yF (nv j).1,H5 (nv j).1 (decide ((nv j).2=j.length)) (nv j).1.length):=by
  unfold jV yF H5;rw[List.take_length]
 rw[e1];have e2:decide (((nv j).2:Int)=(j.length:Int))=decide ((nv j).2=j.length):=by
  by_cases c:(nv j).2=j.length
  ·rw[decide_eq_true c,decide_eq_true (by omega)]
  ·rw[decide_eq_false c,decide_eq_false (by omega)]
 generalize nv j=r at*;obtain⟨ts,e⟩:=r;simp only at h1 htx hrl e2 ⊢;generalize decide (e=j.length)=b at*;obtain⟨g,hr⟩:=ky (f:=ct (run M) (ts.length+1) fo.l0) ts.length (NQ ts b) 0 (OJ ts b)
  (fun i hi x=>by
   have h2:=ff.al kc ts[i] (by have:=htx _ (aq hi);omega);have e5:=cA (i:=i) (by omega);have hi2:(i:Int)<ts.length:=by omega
   have hc:=AE (ts.take i);rw[eD] at hc;have ha:∀hh:i<(om ts).length,(om ts)[i]'hh=[S ts[i]]:=fun hh=>Dv ts i hh
   have hsl:(om ts).length=ts.length:=tV ts;simp only[NQ,Nb,Nc,Hf hi,Hg b hi,aE];generalize j1 ts[i]=y at*;obtain⟨y,ok⟩:=y;have er:((yF (ts.take i)).map b8).length=(yF (ts.take i)).length:=by simp
   generalize yF (ts.take i)=cs at*;have et:(cs.map b8).take cs.length=cs.map b8:=aa (by omega);have e6:cs.length+1≤4294967296:=by omega
   generalize H5 ts b i=bb at*;cases ok with
   |true=>
    simp only[if_true,cg,bq,bF,ax,bK,dM,b8,Bool.and_true] at h2 er et ⊢;generalize (cs.map fun c:gv=>[I c.kind,I c.box,I c.gid,I c.flags,S c.text])=rc at*;cases bb<;>simp (maxSteps:=9^9) [fo.l0,dP,aa,setAt,bL,h2,ha,hsl,hi,hi2,e5,e6,er,et]
   |false=>
    simp only[au,if_false,dp,b8,Bool.and_false] at h2 er et ⊢;generalize (cs.map fun c:gv=>[I c.kind,I c.box,I c.gid,I c.flags,S c.text])=rc at*;cases bb<;>simp (maxSteps:=9^9) [fo.l0,dP,aa,setAt,bL,h2,ha,hsl,hi,hi2,e5,e6,er,et])
  (fun x=>by
   simp only[NQ,OJ,Nb,Nc,aE];have hsl:(om ts).length=ts.length:=tV ts;simp (maxSteps:=9^9) [fo.l0,dP,aa,setAt,bL,hsl])
 refine aA (b:=fo.m) h0 ⟨ts.length+1, ?_⟩;simp only[NQ,OJ,Nb,Nc,List.take_zero,List.take_length,Prod.forall] at hr;have hsl:(om ts).length=ts.length:=tV ts;have hc0:yF ([]:List (List UInt8))=[]:=rfl;have ha0:H5 ts b 0=b:=by simp[H5]
 have e0:((0:Nat):Int)=0:=rfl;have er:((yF ts).map b8).length=(yF ts).length:=by simp
 rw[hc0,ha0] at hr;have et:((yF ts).map b8).take (yF ts).length=(yF ts).map b8:=aa (by omega);simp only[e0,bF,dM] at hr;generalize (yF ts).map b8=rc at*;generalize H5 ts b ts.length=bb at*;simp (maxSteps:=9^9) [ba,fo.m,fo.b,dP,aa,setAt,bL,h1,hr,hsl,e2,er,et]
theorem iE.al(h:iE.k M)(k:mh)(hs:gJ k.store):run M 138 [.a (jy k)] []=some (.a (jy k),[]):=by
 obtain⟨h0,kc⟩:=h;have h1:=b6.al kc k.store hs;refine aA (b:=iE.m) h0 ⟨0, ?_⟩;simp only[jy,ai,aW,boxes,ints] at h1 ⊢;generalize k.store.boxes.map af=rb at*;generalize az k.store.gone=rs at*;simp (maxSteps:=9^9) [ba,iE.m,iE.b,dP,aa,setAt,bL,h1]
theorem iF.al(h:iF.k M)(k:mh)(hs:gJ k.store)(hj:k.cw.length≤1048576):run M 51 [.a (jy k)] []=some (.a (jy {k with saved:=k.cw.length}),[]):=by
 obtain⟨h0,kc⟩:=h;have h1:=iE.al kc k hs;refine aA (b:=iF.m) h0 ⟨0, ?_⟩;simp only[jy,boxes,ints] at h1 ⊢;generalize k.store.boxes.map af=rb at*;generalize az k.store.gone=rs at*;simp (maxSteps:=9^9) [ba,iF.m,iF.b,dP,aa,setAt,bL,h1]
structure Kw (k:mh):Prop where
 s:gJ k.store
 df:1≤k.store.df∧k.store.df≤2
 j:k.cw.length≤1048576
theorem cX.al(h:cX.k M)(k:mh)(hk:Kw k)(cut:Int):
  run M 506 [.a (jy k),.c (I cut)] []=some (.a (jy (lJ k cut)),[]):=by
 obtain⟨h0,kr,kw,kn,kc,kd⟩:=h;have hj:=hk.j;have h1:=bV.al kw k.saved 0 k.cw.length;have hll:(jC k cut).length≤k.cw.length:=by unfold jC;rw[eD];omega
 have h2:=cR.al kr (jC k cut) (by omega);have hle:=qa (jC k cut) ((jC k cut).length+1) 0 [] (Nat.zero_le _) (by simp);have hre:(nv (jC k cut)).2≤(jC k cut).length:=hle.2;obtain⟨lf,hlf⟩:∃lf,lf=(jC k cut).take (nv (jC k cut)).2:=⟨_,rfl⟩
 have hlf2:lf.length=(nv (jC k cut)).2:=by rw[hlf,eD];omega
 have h3:=fo.al kc lf (by omega);have h4:=gQ.al kn k.store.df;have hcs:∀c∈(jV lf).1,c.text.length≤1048576:=BD fun t ht=>by have:=uT lf t ht;omega
 have hcl:(jV lf).1.length≤1048576:=by
  have:=AE (nv lf).1;have:=(qa lf (lf.length+1) 0 [] (Nat.zero_le _) (by simp)).1;have e:(jV lf).1=yF (nv lf).1:=rfl;rw[e];have e2:(nv lf).1=(mX lf (lf.length+1) 0 []).1:=rfl;rw[←e2] at this;omega
 have h5:=gU.al kd (new k.store.df) (ph hk.df.1 hk.df.2) (jV lf).1 (by omega) hcs;have hres:lJ k cut=⟨(g_ (new k.store.df) (jV lf).1).1,lf,lf.length⟩:=by
  unfold lJ;rw[←hlf,hlf2]
 rw[hres];have hfl:nK k≤k.cw.length:=by unfold nK;split<;>omega
 obtain⟨j,hjj⟩:∃j,j=k.cw:=⟨_,rfl⟩
 obtain⟨f,hf⟩:∃f,f=nK k:=⟨_,rfl⟩
 have hjl:j.length=k.cw.length:=by rw[hjj]
 have ew:IntKind.i64.wrap ((j.length:Int)-(f:Int))=(j.length:Int)-(f:Int):=wrap_i64 (by omega) (by omega);have ew0:IntKind.i64.wrap (f:Int)=(f:Int):=wrap_i64 (by omega) (by omega);have ew1:IntKind.i64.wrap (j.length:Int)=(j.length:Int):=wrap_i64 (by omega) (by omega);have ew2:IntKind.i64.wrap ((f:Int)+((j.length:Int)-(f:Int)))=(j.length:Int):=by rw[show (f:Int)+((j.length:Int)-(f:Int))=(j.length:Int) by omega];exact ew1
 have hfj:f≤j.length:=by omega
 have e0:((0:Nat):Int)=0:=rfl;have hlf3:lf.length≤(jC k cut).length:=by omega
 have hll2:jC k cut=j.take (f+min (max 0 cut).toNat (j.length-f)):=by unfold jC;rw[hf,hjj]
 generalize (nv (jC k cut))=rr at*;obtain⟨rts,rn⟩:=rr;simp only at h2 hre hlf hlf2;have key:∀m:Nat,m≤j.length→f+min (max 0 cut).toNat (j.length-f)=m→jC k cut=j.take m∧lf=(j.take m).take rn∧rn≤m:=by
  intro m hm e;rw[e] at hll2;refine⟨hll2,by rw[hlf,hll2], ?_⟩;rw[hll2,eD] at hre;omega
 rw[←hjj] at h1;have hres2:jy ⟨(g_ (new k.store.df) (jV lf).1).1,lf,(lf.length:Int)⟩=[I (g_ (new k.store.df) (jV lf).1).1.df,I (g_ (new k.store.df) (jV lf).1).1.time,boxes (g_ (new k.store.df) (jV lf).1).1.boxes,ints (g_ (new k.store.df) (jV lf).1).1.gone,S lf,I lf.length]:=rfl;rw[hres2];have e1:jy k=[I k.store.df,I k.store.time,boxes k.store.boxes,ints k.store.gone,S j,I k.saved]:=by rw[hjj]
 rw[e1];generalize (jV lf)=cl at*;obtain⟨cl,cb⟩:=cl;simp only at h3 h5 ⊢;generalize g_ (new k.store.df) cl=d at*;obtain⟨d,dn⟩:=d;simp only[ai,boxes,ints,new,calls,bF,nJ] at h5 ⊢;have hsav:(0≤k.saved∧k.saved≤(j.length:Int)∧k.saved=(f:Int))∨(¬(0≤k.saved∧k.saved≤(j.length:Int))∧f=0):=by
  rw[hf,hjj];unfold nK;by_cases c:0≤k.saved∧k.saved≤(k.cw.length:Int)
  ·rw[if_pos c];left;omega
  ·rw[if_neg c];right;exact⟨c,rfl⟩
 have hcut:(¬0<cut∧f+min (max 0 cut).toNat (j.length-f)=f)∨(0<cut∧(j.length:Int)-f<cut∧f+min (max 0 cut).toNat (j.length-f)=j.length)∨
   (∃c:Nat,0<c∧cut=(c:Int)∧¬(j.length:Int)-f<(c:Int)∧f+min (max 0 cut).toNat (j.length-f)=f+c):=by
  by_cases c1:0<cut
  ·by_cases c2:(j.length:Int)-f<cut
   ·right;left;omega
   ·right;right;exact⟨cut.toNat,by omega,by omega,by omega,by omega⟩
  ·left;omega
 refine aA (b:=cX.m) h0 ⟨0, ?_⟩;generalize k.store.boxes.map af=r1 at*;generalize az k.store.gone=r2 at*;generalize d.boxes.map af=r3 at*;generalize az d.gone=r4 at*;generalize cl.map b8=rc at*;rcases hsav with⟨s1,s2,s3⟩|⟨s1,s2⟩
 ·have hb:(decide ((0:Int)≤k.saved)&&decide (k.saved≤(j.length:Int)))=true:=by rw[decide_eq_true s1,decide_eq_true s2];rfl
  rw[hb] at h1;rw[s3] at h1 ⊢;rcases hcut with⟨c1,c2⟩|⟨c1,c2,c3⟩|⟨c,c0,rfl,c2,c3⟩
  ·obtain⟨k1,k2,k3⟩:=key f hfj c2;rw[k1] at h2;have c1':¬(j.length:Int)-f<0:=by omega
   subst k2;simp (maxSteps:=9^9) [ba,cX.m,cX.b,dP,aa,setAt,bL,h1,h2,h3,h4,h5,ew,ew0,c1,c1',hfj,k3]
  ·obtain⟨k1,k2,k3⟩:=key j.length (Nat.le_refl _) c3;rw[k1] at h2;subst k2;rw[List.take_length] at*;simp (maxSteps:=9^9) [ba,cX.m,cX.b,dP,aa,setAt,bL,h1,h2,h3,h4,h5,ew,ew1,ew2,c1,c2,hfj,k3]
  ·have hm:f+c≤j.length:=by omega
   obtain⟨m,hm2⟩:∃m,m=f+c:=⟨_,rfl⟩
   obtain⟨k1,k2,k3⟩:=key m (by omega) (by omega);have ew3:IntKind.i64.wrap ((f:Int)+(c:Int))=(m:Int):=by rw[show (f:Int)+(c:Int)=(m:Int) by omega];exact wrap_i64 (by omega) (by omega)
   have hmj:m≤j.length:=by omega
   rw[k1] at h2;subst k2;clear hm2;simp (maxSteps:=9^9) [ba,cX.m,cX.b,dP,aa,setAt,bL,h1,h2,h3,h4,h5,ew,ew3,c0,c2,hmj,k3]
 ·have hb:(decide ((0:Int)≤k.saved)&&decide (k.saved≤(j.length:Int)))=false:=by
   cases q:(decide ((0:Int)≤k.saved)&&decide (k.saved≤(j.length:Int))) with
   |false=>rfl
   |true=>simp only[aj,decide_eq_true_eq] at q;exact(s1 q).elim
  rw[hb] at h1;subst s2;simp only[e0,Int.sub_zero,Int.zero_add,Nat.zero_add,Nat.sub_zero] at ew ew2 hcut key;rcases hcut with⟨c1,c2⟩|⟨c1,c2,c3⟩|⟨c,c0,rfl,c2,c3⟩
  ·obtain⟨k1,k2,k3⟩:=key 0 (Nat.zero_le _) c2;have:rn=0:=by omega
   subst this;rw[k1] at h2;have c1':¬(j.length:Int)<0:=by omega
   subst k2;have ez:IntKind.i64.wrap 0=0:=by decide
   have hb0:ByteArray.empty=bs []:=rfl;simp only[List.take_zero,dM,e0] at h2 h3 ⊢;simp (maxSteps:=9^9) [ba,cX.m,cX.b,dP,aa,setAt,bL,h1,h2,h3,h4,h5,ew,ez,hb0,c1,c1']
  ·obtain⟨k1,k2,k3⟩:=key j.length (Nat.le_refl _) c3;rw[k1] at h2;subst k2;rw[List.take_length] at*;simp (maxSteps:=9^9) [ba,cX.m,cX.b,dP,aa,setAt,bL,h1,h2,h3,h4,h5,ew,ew1,c1,c2,k3]
  ·obtain⟨k1,k2,k3⟩:=key c (by omega) c3;have ew3:IntKind.i64.wrap (c:Int)=(c:Int):=wrap_i64 (by omega) (by omega);have hmj:c≤j.length:=by omega
   rw[k1] at h2;subst k2;simp (maxSteps:=9^9) [ba,cX.m,cX.b,dP,aa,setAt,bL,h1,h2,h3,h4,h5,ew,ew3,c0,c2,hmj,k3]
theorem ik.al(h:ik.k M)(k:mh)(hs:gJ k.store)(hj:k.cw.length≤1048576):run M 435 [.a (jy k)] []=some (.c (.bool (Ai k)),[]):=by
 obtain⟨h0,ks,kw,kn,ko,kc,kd⟩:=h;have h1:=fo.al kc k.cw hj;have h2:=aJ.al ko k.store hs;have h3:=bV.al kw k.saved 0 k.cw.length;have h4:=gQ.al kn k.store.df;have hw:a8 k.store=true→1≤k.store.df∧k.store.df≤2:=fun e=>(iI.1 e).df
 have hcs:∀c∈(jV k.cw).1,c.text.length≤1048576:=BD fun t ht=>by have:=uT k.cw t ht;omega
 have hcl:(jV k.cw).1.length≤1048576:=by
  have:=AE (nv k.cw).1;have:=(qa k.cw (k.cw.length+1) 0 [] (Nat.zero_le _) (by simp)).1;have e:(jV k.cw).1=yF (nv k.cw).1:=rfl;rw[e];have e2:(nv k.cw).1=(mX k.cw (k.cw.length+1) 0 []).1:=rfl;rw[←e2] at this;omega
 refine aA (b:=ik.m) h0 ⟨0, ?_⟩;unfold Ai;have e3:(decide ((0:Int)≤k.saved)&&decide (k.saved≤(k.cw.length:Int)))=j_ 0 k.saved k.cw.length:=rfl;rw[e3] at h3;generalize hcc:jV k.cw=cl at*;obtain⟨cl,cb⟩:=cl;simp only at h1 hcs hcl ⊢;generalize j_ 0 k.saved k.cw.length=ib at*;have base:∀b1 b2 b3:Bool,(b1&&b2&&b3)=false→cb=b1→a8 k.store=b2→ib=b3→
   ba (run M) 0 ik.m [.a (jy k)] []=some (.c (.bool false),[]):=by
  intro b1 b2 b3 hb e1 e2 e4;rw[e1] at h1;rw[e2] at h2;rw[e4] at h3;simp only[jy,ai,boxes,ints] at h2 ⊢;generalize k.store.boxes.map af=r1 at*;generalize az k.store.gone=r2 at*;generalize cl.map b8=rc at*;cases b1<;>cases b2<;>cases b3<;>first|(cases hb;done)|simp (maxSteps:=9^9) [ba,ik.m,ik.b,dP,aa,setAt,bL,h1,h2,h3]
 by_cases call:(cb&&a8 k.store&&ib)=true
 ·simp only[aj] at call;obtain⟨⟨a1,a2⟩,a3⟩:=call;have h5:=gU.al kd (new k.store.df) (ph (hw a2).1 (hw a2).2) cl (by omega) hcs;have hok:=sd cl (ph (hw a2).1 (hw a2).2);have h6:=gY.al ks (g_ (new k.store.df) cl).1 k.store (lj hok).mT hs;rw[a1] at h1;rw[a2] at h2;rw[a3] at h3;rw[a1,a2,a3];simp only[Bool.true_and];change run M 63 [.a (ai (g_ (new k.store.df) cl).1),.a (ai k.store)] []=_ at h6;generalize hsb:p7 (g_ (new k.store.df) cl).1 k.store=sb at*;generalize g_ (new k.store.df) cl=d at*;obtain⟨d,dn⟩:=d;simp only[jy,ai,boxes,ints,new,calls,bF,nJ] at h2 h5 h6 ⊢;generalize k.store.boxes.map af=r1 at*;generalize az k.store.gone=r2 at*;generalize d.boxes.map af=r3 at*;generalize az d.gone=r4 at*;generalize cl.map b8=rc at*;simp (maxSteps:=9^9) [ba,ik.m,ik.b,dP,aa,setAt,bL,h1,h2,h3,h4,h5,h6]
 ·have cf:(cb&&a8 k.store&&ib)=false:=by simpa using call
  rw[cf,Bool.false_and];exact base cb (a8 k.store) ib cf rfl rfl rfl
theorem EU(kb:bu.k M)(kp:eG.k M){R:List (List T)}(hR:Bytes R)
  (s:aT) (g m:Int) (i:Nat) (q:Int) (hi:i≤R.length) (n:Nat) (e:List (Nat×V)) (eo:List (Nat×Ob)):
  ∃(x:List UInt8) (i':Nat) (q':Int) (n':Nat),x∈pY∧i'≤R.length∧ct (run M) 0 bB.tl (yD e eo R s g 0 m i q n)=some (.ret,yE R ⟨1,g,0,0,x⟩ i' q' n'):=by
 obtain⟨k,i1,q1,hk,hi1,h1⟩:=bu.al kb hR i q hi 12 (by omega) (by omega);simp only[bO] at h1;obtain⟨x,i2,q2,hx,hi2,h2⟩:=eG.al kp hR i1 q1 hi1 pY (by decide) (by decide);suffices hh:∃n',ct (run M) 0 bB.tl (yD e eo R s g 0 m i q n)=some (.ret,yE R ⟨1,g,0,0,x⟩ i2 q2 n') by
  obtain⟨n',hh⟩:=hh;exact⟨_,_,_,n',hx,hi2,hh⟩
 simp only[iG,pY,bq,bF] at h1 h2;simp only[yD,yE,Fe,iG,b8,ai,boxes,ints];simp (maxSteps:=9^9) [bB.tl,dP,aa,setAt,bL,h1,h2]
theorem bB.first(h:bB.k M){R:List (List T)}(hR:Bytes R)(i:Nat)(q:Int)(hi:i≤R.length)(s:aT)(hs:s.boxes=[])(g:Int):
  ∃(x:List UInt8) (i':Nat) (q':Int),x∈pY∧i'≤R.length∧run M 519 [.c (.ptr 0 0 0 0),.a (ai s),.c (I g)] [iG R i q]=some (.a (b8 ⟨1,g,0,0,x⟩),[iG R i' q']):=by
 obtain⟨h0,kt,kn,kb,kx,kp,ku⟩:=h;have er:(s.boxes.map af).length=0:=by simp[hs]
 obtain⟨x,i1,q1,n1,hc,hi1,h1⟩:=EU kb kp hR s g 0 i q hi 2000128 [(16,.c (.bool false))] [];refine⟨x,i1,q1,hc,hi1,aA (b:=bB.m) h0 ⟨0, ?_⟩⟩;simp only[yD,yE,Fe,iG,b8,ai,boxes,ints,List.cons_append,List.nil_append] at h1 ⊢;generalize s.boxes.map af=rb at*;generalize az s.gone=rs at*;simp (maxSteps:=9^9) [ba,bB.m,bB.b,dP,aa,setAt,bL,h1,er]
structure Mn where
 cs:List gv
 i:Nat
 ic:Nat
 q:Int
 v:Nat
 v5:Nat
 n:Nat
def MP(R:List (List T))(w:Int)(s:Mn):List (Nat×Ob):=[iG R s.ic s.q,(5,⟨s.v5,4,true,true,[ai (g_ (new w) s.cs).1]⟩),(11,⟨s.v,5,true,false,s.cs.map b8⟩)]
def MN(w:Int)(s:Mn):List (Nat×V):=[(0,.c (.ptr 0 0 0 0)),(1,.c (I w)),(5,.c (.ptr 5 s.v5 0 0)),(6,.c (.row 11 s.v 0 s.i)),(7,.c (I s.i))]
def HW(R:List (List T))(w:Int)(s:Mn):St:={t:=MN w s,o:=MP R w s,n:=s.n}
def MQ(R:List (List T))(w:Int)(s:Mn):St:={t:=MN w s++[(16,.c (.bool false))],o:=MP R w s,n:=s.n}
structure Nj (R:List (List T)) (w:Int) (s:Mn):Prop where
 i:s.i≤10
 l:s.cs.length=s.i
 c:s.ic≤R.length
 x:∀c∈s.cs,c.text.length≤20004
 one:0<s.i→0<(g_ (new w) s.cs).2
theorem I2(kb:bu.k M)(kd:cF.k M)(kc:bB.k M){R:List (List T)}(hR:Bytes R){w:Int}(hw:1≤w∧w≤2)(k:Nat)(s:Mn)(hs:Nj R w s):
  (∃s',ct (run M) k dy.l0 (HW R w s)=some (.normal,HW R w s')∧Nj R w s'∧10-s'.i<10-s.i)∨
   (∃r,ct (run M) k dy.l0 (HW R w s)=some r∧r.1≠.normal∧∃s',r=(.exit 0,MQ R w s')∧0<s'.i∧Nj R w s'):=by
 obtain⟨cs,i,ic,q,v,v5,n⟩:=s;obtain⟨hi,hl,hic,hx,h1⟩:=hs;simp only at hi hl hic hx h1;have hok:a8 (g_ (new w) cs).1=true:=sd _ (ph hw.1 hw.2);have hwho:(g_ (new w) cs).1.df=w:=vj cs _;obtain⟨z,ic1,q1,hz,hic1,g1⟩:=bu.al kb hR ic q hic 10 (by omega) (by omega);have e1:IntKind.i64.wrap (1+(z:Int))=1+(z:Int):=wrap_i64 (by omega) (by omega);by_cases c0:i<1+z
 ·left;have e2:IntKind.i64.wrap (100*w)=100*w:=wrap_i64 (by omega) (by omega);have e3:IntKind.i64.wrap (100*w+(i:Int))=100*w+(i:Int):=wrap_i64 (by omega) (by omega);have e4:=cA (i:=i) (by omega);have c1:(i:Int)<1+(z:Int):=by omega
  have hcall:∃(c:gv) (ic2:Nat) (q2:Int),c.text.length≤20004∧ic2≤R.length∧(0<(g_ (new w) (cs++[c])).2)∧
    run M 519 [.c (.ptr 0 0 0 0),.a (ai (g_ (new w) cs).1),.c (I (100*w+(i:Int)))] [iG R ic1 q1]=some (.a (b8 c),[iG R ic2 q2]):=by
   by_cases z0:i=0
   ·subst z0;have hcs:cs=[]:=aZ hl;subst hcs;obtain⟨x,i',q',hx1,hi',hr⟩:=bB.first kc hR ic1 q1 hic1 (g_ (new w) []).1 rfl (100*w+((0:Nat):Int));refine⟨_,i',q',xz hx1,hi', ?_,hr⟩;have:=CQ hw.1 hw.2 (g:=100*w+((0:Nat):Int)) (by omega) hx1;simp only[List.nil_append,g_,new];rw[this];simp
   ·obtain⟨c,i',q',hc,hi',hr⟩:=bB.al kc hR ic1 q1 hic1 (g_ (new w) cs).1 (II hok) (by rw[hwho];exact hw) (100*w+(i:Int));refine⟨c,i',q',hc,hi', ?_,hr⟩;have:=h1 (by omega);rw[pI];simp only;omega
  obtain⟨c,ic2,q2,hc,hic2,hone,g2⟩:=hcall;have g3:=cF.al kd (g_ (new w) cs).1 (lj hok) c (by omega);have hh:∃v' n',ct (run M) k dy.l0 (HW R w ⟨cs,i,ic,q,v,v5,n⟩)=some (.normal,HW R w ⟨cs++[c],i+1,ic2,q2,v',v5,n'⟩):=by
   simp only[HW,MN,MP,pI,cg,bq,bF];simp only[bO] at g1;have er:(cs.map b8).length=i:=by simp[hl]
   have et:(cs.map b8).take i=cs.map b8:=aa (by omega);have e5:i+1≤4294967296:=by omega
   generalize g_ (new w) cs=d at*;obtain⟨d,m⟩:=d;simp only at g2 g3 ⊢;generalize iS d c=y at*;obtain⟨y,ok⟩:=y;simp only[ai,boxes,ints,b8,iG] at g1 g2 g3 et er ⊢;generalize d.boxes.map af=r1 at*;generalize az d.gone=r2 at*;generalize y.boxes.map af=r3 at*;generalize az y.gone=r4 at*;generalize (cs.map fun c:gv=>[I c.kind,I c.box,I c.gid,I c.flags,S c.text])=rc at*;simp (maxSteps:=9^9) [dy.l0,dP,aa,setAt,bL,g1,g2,g3,e1,e2,e3,e4,e5,c1,er,et]
  obtain⟨v',n',hh⟩:=hh;refine⟨_,hh,⟨by simp only;omega,by simp[hl],hic2,fun d hd=> ?_,fun _=>hone⟩,by simp only;omega⟩;rcases List.mem_append.1 hd with y|y
  ·exact hx d y
  ·rw[List.mem_singleton.1 y];exact hc
 ·right;have c1:¬(i:Int)<1+(z:Int):=by omega
  have hh:∃n',ct (run M) k dy.l0 (HW R w ⟨cs,i,ic,q,v,v5,n⟩)=some (.exit 0,MQ R w ⟨cs,i,ic1,q1,v,v5,n'⟩):=by
   simp only[HW,MQ,MN,MP];simp only[bO] at g1;simp only[iG] at g1 ⊢;simp (maxSteps:=9^9) [dy.l0,dP,aa,setAt,bL,g1,e1,c1]
  obtain⟨n',hh⟩:=hh;exact⟨_,hh,by simp,_,rfl,by simp only;omega,⟨hi,hl,hic1,hx,h1⟩⟩
theorem dy.al(h:dy.k M){R:List (List T)}(hR:Bytes R)(i:Nat)(q:Int)(hi:i≤R.length){w:Int}(hw:1≤w∧w≤2):
  ∃(cs:List gv) (i':Nat) (q':Int),cs.length≤10∧(∀c∈cs,c.text.length≤20004)∧0<(g_ (new w) cs).2∧i'≤R.length∧
   run M 516 [.c (.ptr 0 0 0 0),.c (I w)] [iG R i q]=some (.c (.sl true 5 (cs.map b8)),[iG R i' q']):=by
 obtain⟨h0,kn,kb,kd,kc⟩:=h;have h1:=fI.al kn w;obtain⟨r,hr,⟨⟨cs,j,ic,q1,v,v5,n⟩,rfl,hj,hI⟩⟩:=kW (f:=ct (run M) 11 dy.l0) (HW R w) (Nj R w) (fun s=>10-s.i) (fun r=>∃s',r=(.exit 0,MQ R w s')∧0<s'.i∧Nj R w s')
  (fun s hs=>I2 kb kd kc hR hw 11 s hs) 11 ⟨[],0,i,q,2000080,2000048,2000128⟩ ⟨by simp,rfl,hi,fun _ h=>absurd h (by simp),fun h=>absurd h (by simp)⟩ (by simp)
 obtain⟨h2,h3,h4,h5,h6⟩:=hI;simp only at hj h2 h3 h4 h5 h6;refine⟨cs,ic,q1,by omega,h5,h6 hj,h4,aA (b:=dy.m) h0 ⟨11, ?_⟩⟩;simp only[HW,MQ,MN,MP,bF,g_] at hr;have er:(cs.map b8).length=j:=by simp[h3]
 have et:(cs.map b8).take j=cs.map b8:=aa (by omega);have e0:((0:Nat):Int)=0:=rfl;simp only[e0,ai,boxes,ints,new,bF,nJ,iG] at hr ⊢;generalize (g_ ⟨w,0,[],[]⟩ cs)=d at*;generalize d.1.boxes.map af=r1 at*;generalize az d.1.gone=r2 at*;generalize cs.map b8=rc at*;simp (maxSteps:=9^9) [ba,dy.m,dy.b,dP,aa,setAt,bL,h1,hr,er,et]
def Bi(k:mh):Nat×Ob:=(0,⟨0,6,true,true,[jy k]⟩)
theorem xr(l:List UInt8):(kq l).1.length≤6014:=by
 by_cases c:qc l
 ·rw[sZ c];exact Gj c
 ·unfold kq;rw[if_neg (show ¬(1≤l.length∧l.length≤6000) from c)];simp
theorem gB.al(h:gB.k M)(k:mh)(hs:mN k.store)(hj:k.cw.length≤20000)(c:gv)(hc:c.text.length≤1048576):
  run M 518 [.c (.ptr 0 0 0 0),.a (b8 c)] [Bi k]=some (.c (.bool (vi k c).2),[Bi (vi k c).1]):=by
 obtain⟨h0,kr,kt,kd⟩:=h;have h1:=cF.al kd k.store hs c hc;have h2:=gN.al kt c hc;have h3:=fF.al kr (kH c).1 (by have:=AH c;omega);have hr:=xr (kH c).1;unfold vi;generalize kq (kH c).1=r at*;generalize kH c=t at*;generalize iS k.store c=d at*;obtain⟨r,lY⟩:=r;obtain⟨t,right⟩:=t;obtain⟨d,ok⟩:=d;obtain⟨s,j,v⟩:=k;simp only at h1 h2 h3 hr hj ⊢;have ew:IntKind.i64.wrap (20000-(j.length:Int))=20000-(j.length:Int):=wrap_i64 (by omega) (by omega);refine aA (b:=gB.m) h0 ⟨0, ?_⟩;simp only[Bi,jy,ai,boxes,ints,b8] at h1 h2 ⊢;cases ok with
 |false=>
  simp only[true_or,if_true];generalize s.boxes.map af=r1 at*;generalize az s.gone=r2 at*;generalize d.boxes.map af=r3 at*;generalize az d.gone=r4 at*;simp (maxSteps:=9^9) [ba,gB.m,gB.b,dP,aa,setAt,bL,h1,h2,h3]
 |true=>
  cases right with
  |false=>
   simp only[true_or,or_true,if_true];generalize s.boxes.map af=r1 at*;generalize az s.gone=r2 at*;generalize d.boxes.map af=r3 at*;generalize az d.gone=r4 at*;simp (maxSteps:=9^9) [ba,gB.m,gB.b,dP,aa,setAt,bL,h1,h2,h3]
  |true=>
   cases lY with
   |false=>
    simp only[true_or,or_true,if_true];generalize s.boxes.map af=r1 at*;generalize az s.gone=r2 at*;generalize d.boxes.map af=r3 at*;generalize az d.gone=r4 at*;simp (maxSteps:=9^9) [ba,gB.m,gB.b,dP,aa,setAt,bL,h1,h2,h3]
   |true=>
    by_cases c1:20000<j.length+r.length
    ·rw[if_pos (.inr (.inr (.inr c1)))];have c2:20000-(j.length:Int)<r.length:=by omega
     simp only;generalize s.boxes.map af=r1 at*;generalize az s.gone=r2 at*;generalize d.boxes.map af=r3 at*;generalize az d.gone=r4 at*;simp (maxSteps:=9^9) [ba,gB.m,gB.b,dP,aa,setAt,bL,h1,h2,h3,ew,c2]
    ·rw[if_neg (by rintro (z|z|z|z)<;>first|cases z|omega)];have c2:¬20000-(j.length:Int)<r.length:=by omega
     have c3:j.length+r.length≤4611686018427387904:=by omega
     simp only;generalize s.boxes.map af=r1 at*;generalize az s.gone=r2 at*;generalize d.boxes.map af=r3 at*;generalize az d.gone=r4 at*;simp (maxSteps:=9^9) [ba,gB.m,gB.b,dP,aa,setAt,bL,h1,h2,h3,ew,c2,c3]
structure Mm where
 k:mh
 i:Nat
 v2:Nat
 v5:Nat
 n:Nat
def DK:List T:=[I 0,I 0,.aK 7,.aK 1,S [],I 0]
def Me(R:List (List T))(ic:Nat)(q:Int)(s:Mm):List (Nat×Ob):=[iG R ic q,(2,⟨s.v2,6,true,true,[DK]⟩),(5,⟨s.v5,6,true,true,[jy s.k]⟩)]
def Md(save:Int)(cs:List gv)(s:Mm):List (Nat×V):=[(2,.c (.ptr 2 s.v2 0 0)),(4,.c (I save)),(5,.c (.ptr 5 s.v5 0 0)),(6,.c (calls cs)),(7,.c (I s.i))]
def ET(R:List (List T))(ic:Nat)(q:Int)(save:Int)(cs:List gv)(s:Mm):St:={t:=Md save cs s,o:=Me R ic q s,n:=s.n}
def MM(R:List (List T))(ic:Nat)(q:Int)(save:Int)(cs:List gv)(s:Mm):St:={t:=Md save cs s++[(21,.c (.bool false))],o:=Me R ic q s,n:=s.n}
structure Ni (w:Int) (cs:List gv) (s:Mm):Prop where
 i:s.i≤cs.length
 k:∃cs' m,qz w cs' m s.k
theorem I1(kd:gB.k M){R:List (List T)}{ic:Nat}{q:Int}{w:Int}(hw:1≤w∧w≤2)(save:Int)(cs:List gv)(hl:cs.length≤10)(hx:∀c∈cs,c.text.length≤20004)(f:Nat)(s:Mm)(hs:Ni w cs s):
  (∃s',ct (run M) f fi.l0 (ET R ic q save cs s)=some (.normal,ET R ic q save cs s')∧Ni w cs s'∧cs.length-s'.i<cs.length-s.i)∨
   (∃r,ct (run M) f fi.l0 (ET R ic q save cs s)=some r∧r.1≠.normal∧∃s',r=(.exit 0,MM R ic q save cs s')∧Ni w cs s'):=by
 obtain⟨k,i,v2,v5,n⟩:=s;obtain⟨hi,cs',m,hk⟩:=hs;simp only at hi hk;have er:(cs.map b8).length=cs.length:=by simp
 by_cases c0:i<cs.length
 ·left;have hok:=(nU hw hk).1;have h1:=gB.al kd k (lj hok) hk.len cs[i] (by have:=hx _ (aq c0);omega);have a1:∀hh,(cs.map b8)[i]'hh=b8 cs[i]:=by intro hh;simp
  have e5:=cA (i:=i) (by omega);have c2:(i:Int)<cs.length:=by omega
  obtain⟨cs2,hk2⟩:=GA hk cs[i];generalize vi k cs[i]=d at*;obtain⟨d,ok⟩:=d;simp only at h1 hk2;have hj:=hk2.len;by_cases c3:(i:Int)=save
  ·have hh:∃n',ct (run M) f fi.l0 (ET R ic q save cs ⟨k,i,v2,v5,n⟩)=some (.normal,ET R ic q save cs ⟨{d with saved:=d.cw.length},i+1,v2,v5,n'⟩):=by
    simp only[ET,Md,Me];simp only[Bi,jy,boxes,ints,b8,iG,calls,DK] at h1 a1 ⊢;generalize k.store.boxes.map af=r1 at*;generalize az k.store.gone=r2 at*;generalize d.store.boxes.map af=r3 at*;generalize az d.store.gone=r4 at*;subst c3;simp (maxSteps:=9^9) [fi.l0,dP,aa,setAt,bL,h1,a1,er,c0,c2,e5]
   obtain⟨n',hh⟩:=hh;exact⟨_,hh,⟨c0,_,_,xM hk2⟩,by simp only;omega⟩
  ·have hh:∃n',ct (run M) f fi.l0 (ET R ic q save cs ⟨k,i,v2,v5,n⟩)=some (.normal,ET R ic q save cs ⟨d,i+1,v2,v5,n'⟩):=by
    simp only[ET,Md,Me];simp only[Bi,jy,boxes,ints,b8,iG,calls,DK] at h1 a1 ⊢;generalize k.store.boxes.map af=r1 at*;generalize az k.store.gone=r2 at*;generalize d.store.boxes.map af=r3 at*;generalize az d.store.gone=r4 at*;simp (maxSteps:=9^9) [fi.l0,dP,aa,setAt,bL,h1,a1,er,c0,c2,c3,e5]
   obtain⟨n',hh⟩:=hh;exact⟨_,hh,⟨c0,_,_,hk2⟩,by simp only;omega⟩
 ·right;have:i=cs.length:=by omega
  subst this;have hh:∃n',ct (run M) f fi.l0 (ET R ic q save cs ⟨k,cs.length,v2,v5,n⟩)=some (.exit 0,MM R ic q save cs ⟨k,cs.length,v2,v5,n'⟩):=by
   simp only[ET,MM,Md,Me,calls];simp (maxSteps:=9^9) [fi.l0,dP,aa,setAt,bL,er]
  obtain⟨n',hh⟩:=hh;exact⟨_,hh,by simp,_,rfl,⟨hi,_,_,hk⟩⟩
theorem iD.al(h:iD.k M){R:List (List T)}(hR:Bytes R):
  ∃(w:Int) (cs:List gv) (m:Nat) (k:mh),(1≤w∧w≤2)∧qz w cs m k∧run M 505 [.c (.sl false 1 R)] []=some (.a (jy k),[]):=by
 obtain⟨h0,k1,h00,kn,kb,kc,kd⟩:=h;obtain⟨q0,h1⟩:=fP.al k1 hR;obtain⟨z,i1,q1,hz,hi1,h2⟩:=bu.al kb hR 0 q0 (Nat.zero_le _) 2 (by omega) (by omega);obtain⟨y,i2,q2,hy,hi2,h3⟩:=bu.al kb hR i1 q1 hi1 12 (by omega) (by omega);obtain⟨w,hwz⟩:∃w:Int,w=1+(z:Int):=⟨_,rfl⟩
 have e1:IntKind.i64.wrap (1+(z:Int))=w:=by rw[hwz];exact wrap_i64 (by omega) (by omega)
 have hw:1≤w∧w≤2:=by omega
 have h4:=jd.al kn w;obtain⟨cs,i3,q3,hl,hx,_,hi3,h5⟩:=dy.al kc hR i2 q2 hi2 hw;obtain⟨r,hr,⟨⟨k,i,v2,v5,n⟩,rfl,hI⟩⟩:=kW (f:=ct (run M) (cs.length+1) fi.l0) (ET R i3 q3 (y:Int) cs) (Ni w cs) (fun s=>cs.length-s.i) (fun r=>∃s',r=(.exit 0,MM R i3 q3 (y:Int) cs s')∧Ni w cs s')
  (fun s hs=>I1 kd hw (y:Int) cs hl hx (cs.length+1) s hs) (cs.length+1) ⟨DL w,0,2000000,2000160,2000272⟩ ⟨Nat.zero_le _,[],0,EX _⟩ (by simp only;omega)
 obtain⟨hi,cs',m,hk⟩:=hI;simp only at hi hk;refine⟨_,cs',m,k,hw,hk,aA (b:=iD.m) h0 ⟨0, ?_⟩⟩;have h6:run M 515 [.c (.ptr 0 0 0 0)] [iG R 0 q0]=some (.a (jy k),[iG R i3 q3]):=by
  refine aA (b:=fi.m) h00 ⟨cs.length+1, ?_⟩;simp only[ET,MM,Md,Me] at hr;have e0:((0:Nat):Int)=0:=rfl;have er:(cs.map b8).length=cs.length:=by simp
  simp only[iG,e0,bO,jy,DL,boxes,ints,new,calls,DK,bF,nJ] at h1 h2 h3 h4 h5 hr ⊢;generalize cs.map b8=rc at*;generalize k.store.boxes.map af=r3 at*;generalize az k.store.gone=r4 at*;simp (maxSteps:=9^9) [ba,fi.m,fi.b,dP,aa,setAt,bL,h2,h3,h4,h5,hr,e1,er,aa]
 have e0:((0:Nat):Int)=0:=rfl;simp only[iG,e0,jy,boxes,ints] at h1 h6 ⊢;generalize k.store.boxes.map af=r3 at*;generalize az k.store.gone=r4 at*;simp (maxSteps:=9^9) [ba,iD.m,iD.b,dP,aa,setAt,bL,h1,h6]
theorem yM(h:jr.k M)(k:mh)(hs:sO k.store):run M 507 [.a (jy k),.a (jy k)] []=some (.c (.bool true),[]):=by
 obtain⟨h0,k1⟩:=h;have h1:=sW k1 hs;refine aA (b:=jr.m) h0 ⟨0, ?_⟩;simp only[jy,ai,boxes,ints] at h1 ⊢;generalize k.store.boxes.map af=r1 at*;generalize az k.store.gone=r2 at*;simp (maxSteps:=9^9) [ba,jr.m,jr.b,dP,aa,setAt,bL,h1]
theorem Ah{w:Int}(hw:1≤w∧w≤2){cs:List gv}{m:Nat}{k:mh}(h:qz w cs m k):Kw k:=
 ⟨(lj (nU hw h).1).mT,by rw[h.store,sa];exact hw,by have:=h.len;omega⟩
theorem eM.al(h:eM.k M)(R:List (List T))(hl:R.length≤9223372036854775807)(hr:∀(i:Nat) (r:List T),R[i]? =some r→∃n:Int,r=[.int .u8 n]):
  run M 498 [.c (.sl false 1 R)] []=some (.c (.bool true),[]):=by
 obtain⟨h0,kbig,kdp,ksv,ksa,kok,kdk,kfk,ksk⟩:=h;have hbig:=lF.al kbig R hl;refine aA (b:=eM.m) h0 ⟨0, ?_⟩;by_cases cb:1048576<R.length
 ·rw[decide_eq_true cb] at hbig;simp (maxSteps:=9^9) [ba,eM.m,eM.b,dP,aa,setAt,bL,hbig]
 rw[decide_eq_false cb] at hbig;have hR:Bytes R:=⟨by omega,hr⟩;obtain⟨w,cs,m,k,hw,hk,h1⟩:=iD.al kdk hR;obtain⟨rows,hrl,hrr,h2⟩:=cV.al kdp hR;obtain⟨x,hx,hx2⟩:=hrr rows[0] (aq (by omega));obtain⟨z,hz,ez⟩:=tj x 900 (by omega);simp only[bO] at ez;have hkT:=Ah hw hk;have h3:=cX.al kfk k hkT (z:Int);obtain⟨i,hmi,hi,hf,f1,f2,f3⟩:=xN hk (z:Int);have hfT:=Ah hw hf;have hsk:=xM hk;have hskT:=Ah hw hsk;have h4:=iF.al ksv k hkT.s hkT.j;have h5:=cX.al kfk _ hskT 0;rw[vT hsk 0] at h5;have hf2:qz w (cs.take i) (cs.take i).length (lJ k (z:Int)):=by
  have:(cs.take i).length=i:=by rw[eD];omega
  rw[this];exact hf
 have h6:=cX.al kfk _ hfT 5;rw[vT hf2 5] at h6;have h7:=ik.al kok k hkT.s hkT.j;rw[(nU hw hk).2] at h7;have h8:=ik.al kok _ hfT.s hfT.j;rw[(nU hw hf).2] at h8;have h9:=sW ksa (ok_eq (nU hw hk).1);have h10:=yM ksk _ (ok_eq (nU hw hf).1);have hkj:=hk.len;generalize lJ k (z:Int)=f at*;obtain⟨s,j,v⟩:=k;obtain⟨t,g,u⟩:=f;simp only at f1 f2 f3 hkj;have a1:∀hh:0<rows.length,rows[0]'hh=[I x]:=fun _=>hx2
 have e1:¬(g.length:Int)<v:=by omega
 have e2:¬(j.length:Int)<g.length:=by omega
 have e3:j.take g.length=g:=f1.symm;have e4:rows.length=12:=hrl;clear hk hf hsk hf2 hkT hfT hskT;simp only[jy,ai,boxes,ints] at h1 h3 h4 h5 h6 h7 h8 h9 h10;generalize s.boxes.map af=r1 at*;generalize az s.gone=r2 at*;generalize t.boxes.map af=r3 at*;generalize az t.gone=r4 at*;simp (maxSteps:=9^9) [ba,eM.m,eM.b,dP,aa,setAt,bL,hbig,h1,h2,h3,h4,h5,h6,h7,h8,h9,h10,a1,ez,e1,e2,e3,e4,f3]
theorem eM.row(h:eM.k M){as:List V}(ha:zM [.cell (.sl [.int .u8])] as):run M 498 as []=some (.c (.bool true),[]):=by
 cases ha with|cons h0 ha=>
 cases ha;cases h0 with|cell h0=>
 cases h0 with|sl _ rows hl h1 h2=>
 refine eM.al h rows (Nat.le_trans hl (by decide)) fun i r hr=> ?_
 have hlen:=h1 i r hr
 match r,hlen with
 |[a],_=>
  obtain⟨n,rfl⟩:=Jt (h2 i 0 [a] (.int .u8) a hr rfl rfl);exact⟨n,rfl⟩
end Mx
