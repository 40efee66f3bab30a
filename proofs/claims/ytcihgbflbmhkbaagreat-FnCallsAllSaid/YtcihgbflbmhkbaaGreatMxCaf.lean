/-
  What more of the functions compute, each by a small evaluation; no condition beyond what each says.
-/
import Derived.Test.YtcihgbflbmhkbaaGreatMxCae
set_option maxHeartbeats 16000000
set_option linter.unusedSimpArgs false
set_option linter.unusedVariables false
namespace Mx
open Go
variable {M:Nat→Option Body}
def jB(s:aT)(g:Int)(nm:List UInt8):bz:=⟨g,nm,s.time+1,s.eE,1,[],[]⟩
def fS(s:aT)(g:Int)(nm:List UInt8):aT:={s with boxes:=(s.boxes.filter fun b=>decide (b.gid<g))++[jB s g nm]++s.boxes.filter fun b=>decide (g<b.gid),time:=s.time+1}
def k_(s:aT)(g:Int)(nm:List UInt8):aT×Bool:=if bc s=true∧nC s g=false∧(named s.boxes nm).isSome=false then(if bc (fS s g nm)=true then(fS s g nm,true) else(s,false)) else(s,false)
theorem xF{s:aT}(h:bc s=true)(g:Int)(nm:List UInt8)(hn:nm.length≤1048576):g_ (fS s g nm):=by
 have G:=eh h;have hl:=G.boxes.len;have f1:=bQ (fun b:bz=>decide (b.gid<g)) s.boxes;have f2:=bQ (fun b:bz=>decide (g<b.gid)) s.boxes;have hin:∀x∈(fS s g nm).boxes,x∈s.boxes∨x=jB s g nm:=fun x hx=>by
  simp only[fS,gP,fi,gu] at hx;rcases hx with (q|q)|q
  ·exact .inl q.1
  ·exact .inr q
  ·exact .inl q.1
 have hlen:(fS s g nm).boxes.length≤11:=by simp only[fS,aF,bP];omega
 have key:∀l:List bz,(∀x∈l,x.ae.length≤10)→(l.flatMap b5).length≤10*l.length:=by
  intro l
  induction l with
  |nil=>intro _;simp
  |cons x l ih=>
   intro h;have h1:=ih fun y hy=>h y (bp _ hy)
   have h2:=h x (bj ..);simp only[cC,aF,b5,fP,b7] at h1 ⊢;omega
 refine⟨by omega,by have:=G.gone;simp only[fS];omega,fun x hx=> ?_, ?_⟩
 ·rcases hin x hx with q|q
  ·exact(G.boxes.lf x q).th
  ·rw[q];exact⟨by simp[jB],by simp[jB],hn,by simp[jB]⟩
 ·have:=key (fS s g nm).boxes fun x hx=>by
   rcases hin x hx with q|q
   ·exact(G.boxes.lf x q).len
   ·rw[q];simp[jB]
  omega
theorem bT.ar(h:bT.k M)(s:aT)(hs:lW s)(g:Int)(nm:List UInt8)(hn:nm.length≤1048576):
  run M 278 [.a (ai s),.c (I g),.c (S nm)] []=some (.ll [.a (aW (k_ s g nm).1),.c (.bool (k_ s g nm).2)],[]):=by
 obtain⟨h0,ko,kc6,kc,kn,kk,kst⟩:=h;have ht:=hs.time;have hbl:=hs.lR.b;have h2:=aI.ar ko s hs.lR;have h3:=cz.ar kn s nm hs.lR.b;have h7:=ei.ar kk s g hs.lR;have h4:=cj.ar kc s hs.lR;have h5:=dG.ar kst s hs.time;have er:(s.boxes.map af).length=s.boxes.length:=by simp
 have eg:=aM s.gone;have e5:IntKind.i64.wrap (s.time+1)=s.time+1:=wrap_i64 (by omega) (by omega);have c0:=kz (named s.boxes nm);refine aB (b:=bT.m) h0 ⟨s.boxes.length+1, ?_⟩;unfold k_;cases c1:bc s with
 |false=>
  rw[c1] at h2;simp only[au,false_and,if_false];simp only[ai,aW,boxes,ints] at*;generalize s.boxes.map af=rb at*;generalize az s.gone=rs at*;simp (maxSteps:=9^9) [bl,bT.m,bT.b,aa,setAt,h2,h4,er,eg,ab]
 |true=>
  rw[c1] at h2;cases c2:nC s g with
  |true=>
   rw[c2] at h7;simp only[Bool.true_eq_false,false_and,and_false,if_false];simp only[ai,aW,boxes,ints] at*;generalize s.boxes.map af=rb at*;generalize az s.gone=rs at*;simp (maxSteps:=9^9) [bl,bT.m,bT.b,aa,setAt,h2,h4,h7,er,eg,ab]
  |false=>
   rw[c2] at h7;cases c3:(named s.boxes nm).isSome with
   |true=>
    rw[c3] at c0;simp only[decide_eq_true_eq] at c0;simp only[Bool.true_eq_false,and_false,if_false];generalize dy (named s.boxes nm)=z at*;simp only[ai,aW,boxes,ints] at*;generalize s.boxes.map af=rb at*;generalize az s.gone=rs at*;simp (maxSteps:=9^9) [bl,bT.m,bT.b,aa,setAt,c0,h2,h3,h4,h7,er,eg,ab]
   |false=>
    rw[c3] at c0;simp only[decide_eq_false_iff_not] at c0;rw[if_pos ⟨rfl,rfl,rfl⟩];have h6:=aI.ar ko _ (xF c1 g nm hn);obtain⟨⟨v1,n1⟩,r1⟩:=GF kc6 (s.boxes.length+1) ⟨s,g,[I g,S nm,I (s.time+1),I s.eE,I 1,.aN 4,.aN 1],2000000,2000016,2000304,2000464,2000290,2000291⟩ hs.lR (by simp only;omega) (2000336,2000512);have f1:=bQ (fun b:bz=>decide (b.gid<g)) s.boxes;have f2:=bQ (fun b:bz=>decide (g<b.gid)) s.boxes;obtain⟨⟨v2,n2⟩,r2⟩:=GD kc6 (s.boxes.length+1) ⟨s,g,[],2000000,2000016,2000304,0,2000290,2000291⟩ hs.lR (by simp only;omega) ((s.boxes.filter fun b=>decide (b.gid<g))++[jB s g nm]) (by simp;omega) (n1+64,n1+128);have ez:((0:Nat):Int)=0:=rfl;have el1:((s.boxes.filter fun b=>decide (b.gid<g)).map af).length=(s.boxes.filter fun b=>decide (b.gid<g)).length:=by simp
    have em:(((s.boxes.filter fun b=>decide (b.gid<g))++[jB s g nm]).map af)=(s.boxes.filter fun b=>decide (b.gid<g)).map af++[[I g,S nm,I (s.time+1),I s.eE,I 1,.sl false 4 [],.sl false 1 []]]:=by simp[jB,af,az]
    have eml:((s.boxes.filter fun b=>decide (b.gid<g))++[jB s g nm]).length=(s.boxes.filter fun b=>decide (b.gid<g)).length+1:=by simp
    have e6:(s.boxes.filter fun b=>decide (b.gid<g)).length+1≤4294967296:=by omega
    have emt:(fS s g nm).boxes=(s.boxes.filter fun b=>decide (b.gid<g))++[jB s g nm]++s.boxes.filter fun b=>decide (g<b.gid):=rfl
    have el2:((fS s g nm).boxes.map af).length=(fS s g nm).boxes.length:=by simp
    have ew:(fS s g nm).eE=s.eE:=rfl;have et:(fS s g nm).time=s.time+1:=rfl;have egn:(fS s g nm).gone=s.gone:=rfl;simp only[JL,K5,DD,ez,bJ,fE] at r1;simp only[JK,K4,DD,ez,←emt,em,eml] at r2;clear emt em eml;generalize dy (named s.boxes nm)=z at*;generalize (s.boxes.filter fun b=>decide (b.gid<g)).map af=rf at*;generalize (s.boxes.filter fun b=>decide (b.gid<g)).length=nf at*;cases c:bc (fS s g nm) with
    |true=>
     rw[c] at h6;rw[if_pos rfl];simp only[ai,aW,boxes,ints,ew,et,egn] at h2 h3 h4 h5 h6 h7 r1 r2 ⊢;clear c;generalize (fS s g nm).boxes.map af=rm at*;generalize (fS s g nm).boxes.length=nm2 at*;generalize s.boxes.map af=rb at*;generalize az s.gone=rs at*;simp (maxSteps:=9^9) [bl,bT.m,bT.b,aa,setAt,c0,h2,h3,h4,h5,h6,h7,r1,r2,e5,e6,el1,el2,er,eg,ab]
    |false=>
     rw[c] at h6;rw[if_neg (by decide)];simp only[ai,aW,boxes,ints,ew,et,egn] at h2 h3 h4 h5 h6 h7 r1 r2 ⊢;clear c;generalize (fS s g nm).boxes.map af=rm at*;generalize (fS s g nm).boxes.length=nm2 at*;generalize s.boxes.map af=rb at*;generalize az s.gone=rs at*;simp (maxSteps:=9^9) [bl,bT.m,bT.b,aa,setAt,c0,h2,h3,h4,h5,h6,h7,r1,r2,e5,e6,el1,el2,er,eg,ab]
end Mx
namespace Mx
open Go
structure KI (s:aT):Prop where
 eE:1≤s.eE∧s.eE≤2
 time:0≤s.time∧s.time≤100000
 len:s.boxes.length≤5
 gone:xl s.gone
 vY:∀g∈s.gone,1≤g∧g≤9999
 mG:s.gone.length≤20
 box:∀b∈s.boxes,Good b∧¬b.gid∈s.gone∧late b s.time=false
 Ih:s.boxes.Pairwise fun x y=>x.gid<y.gid
 names:s.boxes.Pairwise fun x y=>x.name≠y.name
 ae:(s.boxes.flatMap b5).Nodup
theorem Eh{l:List bz}(i:Nat)(hi:i<l.length):dy (named l l[i].name)=(i:Int)↔∀j (hj:j<i),(l[j]'(by omega)).name≠l[i].name:=by
 unfold named;constructor
 ·intro h j hj e;cases q:l.findIdx? (fun b=>decide (b.name=l[i].name)) with
  |none=>rw[q] at h;simp[dy] at h
  |some k=>
   rw[q] at h;simp only[dy] at h;have hk:k=i:=by omega
   subst hk;have:=(List.findIdx?_eq_some_iff_getElem.1 q).2.2 j hj;simp[e] at this
 ·intro h;have:l.findIdx? (fun b=>decide (b.name=l[i].name))=some i:=List.findIdx?_eq_some_iff_getElem.2 ⟨hi,by simp,fun j hj=>by simpa using h j hj⟩;rw[this];rfl
theorem zL(seen l:List Int)(hs:seen.Nodup):tp seen l=false↔(seen++l).Nodup:=by
 have h0:tp seen l=false↔∀k (hk:k<l.length),¬l[k]∈seen++l.take k:=by
  unfold tp;rw[Option.isSome_eq_false_iff,cp,iV];constructor
  ·intro h k hk c;have:=h k hk;rw[pb hk] at this;simp only[decide_eq_false_iff_not] at this;exact this c
  ·intro h k hk;rw[pb hk];simpa using h k hk
 rw[h0];constructor
 ·intro h;have key:∀k,k≤l.length→(seen++l.take k).Nodup:=by
   intro k
   induction k with
   |zero=>intro _;simpa using hs
   |succ k ih=>
    intro hk;rw[gK l k (by omega),←cP,List.nodup_append];refine⟨ih (by omega),by simp,fun a ha b hb e=> ?_⟩;simp only[gu] at hb;subst hb;subst e;exact h k (by omega) ha
  have:=key l.length (Nat.le_refl _)
  rwa [List.take_length] at this
 ·intro h k hk c;have e:l=l.take k++l[k]::l.drop (k+1):=by rw[←bA hk,cX]
  rw[e,←cP,List.nodup_append] at h;exact h.2.2 _ c _ (bj ..) rfl
theorem D1(s:aT):(∀i (hi:i<s.boxes.length),tp (seenAt s i) (b5 s.boxes[i])=false)↔(s.boxes.flatMap b5).Nodup:=by
 have ha:seenAt s s.boxes.length=s.boxes.flatMap b5:=by simp[seenAt]
 constructor
 ·intro h;have key:∀k,k≤s.boxes.length→(seenAt s k).Nodup:=by
   intro k
   induction k with
   |zero=>intro _;simp[seenAt]
   |succ k ih=>
    intro hk;rw[oG (by omega)];exact(zL _ _ (ih (by omega))).1 (h k (by omega))
  rw[←ha];exact key _ (Nat.le_refl _)
 ·intro h i hi;have hsub:(seenAt s (i+1)).Sublist (s.boxes.flatMap b5):=by
   have e:s.boxes.flatMap b5=seenAt s (i+1)++(s.boxes.drop (i+1)).flatMap b5:=by
    rw[seenAt,←List.flatMap_append,cX]
   rw[e];exact List.sublist_append_left ..
  have h1:=h.sublist hsub;rw[oG hi] at h1;exact(zL _ _ (List.nodup_append.1 h1).1).2 h1
theorem ie{s:aT}:bc s=true↔KI s:=by
 have hsplit:(∀i (hi:i<s.boxes.length),ph s i=false)↔(∀i (hi:i<s.boxes.length),tG s i=false)∧(∀i (hi:i<s.boxes.length),tp (seenAt s i) (b5 s.boxes[i])=false):=by
  constructor
  ·intro h;exact⟨fun i hi=>by have:=h i hi;rw[mR hi,fG] at this;exact this.1,fun i hi=>by have:=h i hi;rw[mR hi,fG] at this;exact this.2⟩
  ·intro h i hi;rw[mR hi,fG];exact⟨h.1 i hi,h.2 i hi⟩
 have hbox:∀i (hi:i<s.boxes.length),tG s i=false↔fz s.boxes[i]=true∧(0<i→(s.boxes[i-1]'(by omega)).gid<s.boxes[i].gid)∧(∀j (hj:j<i),(s.boxes[j]'(by omega)).name≠s.boxes[i].name)∧¬s.boxes[i].gid∈s.gone∧late s.boxes[i] s.time=false:=fun i hi=>by
  rw[nc hi,←Eh i hi];simp only[fG,Bool.not_eq_eq_eq_not,Bool.not_false,Bool.and_eq_false_imp,decide_eq_true_eq,decide_eq_false_iff_not,Int.not_le];constructor
  ·rintro ⟨⟨⟨⟨h1,h2⟩,h3⟩,h4⟩,h5⟩;exact⟨h1,h2,h3,h4,h5⟩
  ·rintro ⟨h1,h2,h3,h4,h5⟩;exact⟨⟨⟨⟨h1,h2⟩,h3⟩,h4⟩,h5⟩
 have hq:bc s=true↔((((1≤s.eE∧s.eE≤2)∧0≤s.time∧s.time≤100000)∧s.boxes.length≤5)∧kS s.gone 20=true)∧∀i (hi:i<s.boxes.length),ph s i=false:=by
  simp only[bc,al,decide_eq_true_eq,cp,iV,kC]
 rw[hq,hsplit,D1];constructor
 ·rintro ⟨⟨⟨⟨h1,h2⟩,h3⟩,h4⟩,h5,h6⟩;obtain⟨g1,g2,g3⟩:=ov.1 h4;have hb:=fun i hi=>(hbox i hi).1 (h5 i hi)
  refine⟨h1,h2,h3,g1,g2,by omega,fun b hbm=> ?_, ?_, ?_,h6⟩
  ·obtain⟨i,hi,rfl⟩:=bV hbm;exact⟨pg.1 (hb i hi).1,(hb i hi).2.2.2.1,(hb i hi).2.2.2.2⟩
  ·have hA:xl (s.boxes.map (·.gid)):=vj fun j hj=>by
    simp only[fP] at hj;have:=(hb (j+1) hj).2.1 (by omega);simpa using this
   exact List.pairwise_map.1 hA
  ·exact List.pairwise_iff_getElem.2 fun i j hi hj hij=>(hb j hj).2.2.1 i hij
 ·intro h;refine⟨⟨⟨⟨h.eE,h.time⟩,h.len⟩,ov.2 ⟨h.gone,h.vY,by have:=h.mG;omega⟩⟩,fun i hi=>(hbox i hi).2 ⟨pg.2 (h.box _ (ax hi)).1,fun q=>List.pairwise_iff_getElem.1 h.Ih (i-1) i (by omega) hi (by omega),fun j hj=>List.pairwise_iff_getElem.1 h.names j i (by omega) hi hj,(h.box _ (ax hi)).2.1,(h.box _ (ax hi)).2.2⟩,h.ae⟩
theorem EL{l l':List bz}(h:l.Sublist l'):(l.flatMap b5).Sublist (l'.flatMap b5):=by
 induction h with
 |slnil=>exact List.Sublist.refl _
 |cons a _ ih=>rw[cC];exact ih.trans (List.sublist_append_right _ _)
 |cons_cons a _ ih=>rw[cC,cC];exact List.Sublist.append (List.Sublist.refl _) ih
theorem pA{s:aT}(h:bc s=true)(i:Nat)(b:bz):bc (stamped s i b).1=true:=by
 unfold stamped;split
 ·rename_i c;exact c
 ·exact h
theorem Cd{s:aT}(h:bc s=true)(g:Int)(f:Nat→bz→aT×Bool)(hf:∀i (hi:i<s.boxes.length),bc (f i s.boxes[i]).1=true):bc (at_ s g f).1=true:=by
 cases c:kU s.boxes g with
 |none=>rw[lh c];exact h
 |some i=>
  obtain⟨hi,_⟩:=iB c;rw[lg c hi];exact hf i hi
theorem vC{s:aT}(h:bc s=true)(g m f:Int)(x:List UInt8):bc (lG s g m f x).1=true:=by
 unfold lG;split
 ·refine Cd h _ _ fun i hi=> ?_
  split
  ·exact pA h _ _
  ·exact h
 ·exact h
theorem tY{s:aT}(h:bc s=true)(g m f:Int):bc (kf s g m f).1=true:=by
 unfold kf;rw[if_pos h];refine Cd h _ _ fun i hi=> ?_
 split
 ·exact pA h _ _
 ·exact h
theorem si{s:aT}(h:bc s=true)(g:Int)(nm:List UInt8):bc (jI s g nm).1=true:=by
 unfold jI;split
 ·exact Cd h _ _ fun i hi=>pA h _ _
 ·exact h
theorem rN{s:aT}(h:bc s=true)(g:Int)(nm:List UInt8):bc (k_ s g nm).1=true:=by
 unfold k_;split
 ·split
  ·rename_i c;exact c
  ·exact h
 ·exact h
theorem rT{s:aT}(h:bc s=true){g:Int}(hg:1≤g∧g≤9999):bc (lI s g).1=true:=by
 unfold lI;split
 ·rename_i c;cases q:kU s.boxes g with
  |none=>rw[lh q];exact h
  |some i=>
   obtain⟨hi,hbi⟩:=iB q;rw[lg q hi];have G:=ie.1 h;have hs:=mm s.boxes i;have hgi:=(j1 hbi).2;refine ie.2 ⟨G.eE,G.time,Nat.le_trans hs.length_le G.len,sC G.gone,fun x hx=> ?_,by have:=uQ s.gone g;simp only;omega,fun b hb=> ?_,G.Ih.sublist hs,G.names.sublist hs,G.ae.sublist (EL hs)⟩
   ·rcases nE.1 hx with e|e
    ·rw[e];exact hg
    ·exact G.vY x e
   ·obtain⟨b1,b2,b3⟩:=G.box b (hs.subset hb);refine⟨b1,fun e=> ?_,b3⟩;rcases nE.1 e with e|e
    ·rcases List.mem_append.1 hb with z|z
     ·obtain⟨j,hj,rfl⟩:=bV z;simp only[hZ] at hj;rw[List.getElem_take] at e;have:=List.pairwise_iff_getElem.1 G.Ih j i (by omega) hi (by omega);omega
     ·obtain⟨j,hj,rfl⟩:=bV z;rw[List.getElem_drop] at e;have:=List.pairwise_iff_getElem.1 G.Ih i (i+1+j) hi (by simp at hj;omega) (by omega);omega
    ·exact b2 e
 ·exact h
theorem wR{b:bz}(hb:Good b){m:Int}(ok:(jH b m).2=true):Good (jH b m).1∧(jH b m).1.gid=b.gid∧(jH b m).1.name=b.name∧(jH b m).1.time=b.time∧(jH b m).1.ae.Sublist b.ae:=by
 unfold jH at ok ⊢;cases q:fD b.ae m with
 |none=>rw[q] at ok;cases ok
 |some k=>
  rw[q] at ok;simp only at ok ⊢;obtain⟨hlt,he,_⟩:=my q;by_cases c:fz b=true∧b.gone.length<40
  ·rw[if_pos c];have:=C3 hb hlt c.2;rw[he] at this;exact⟨this,rfl,rfl,rfl,mm b.ae k⟩
  ·rw[if_neg c] at ok;cases ok
theorem qu{s:aT}(h:bc s=true)(g m:Int):bc (kE s g m).1=true:=by
 unfold kE;rw[if_pos h];refine Cd h _ _ fun i hi=> ?_
 split
 ·rename_i c;have G:=ie.1 h;obtain⟨b1,b2,b3⟩:=G.box _ (ax hi);obtain⟨t1,t2,t3,t4,t5⟩:=wR b1 c;generalize (jH s.boxes[i] m).1=b' at*;have e1:(s.boxes.set i b').map (·.gid)=s.boxes.map (·.gid):=by
   rw[gZ];apply List.ext_getElem<;>simp[List.getElem_set];intro j hj h2;subst h2;exact t2
  have e2:(s.boxes.set i b').map (·.name)=s.boxes.map (·.name):=by
   rw[gZ];apply List.ext_getElem<;>simp[List.getElem_set];intro j hj h2;subst h2;exact t3
  refine ie.2 ⟨G.eE,G.time,by simpa using G.len,G.gone,G.vY,G.mG,fun b hb=> ?_, ?_, ?_, ?_⟩
  ·rcases List.mem_or_eq_of_mem_set hb with q|q
   ·exact G.box b q
   ·subst q;refine⟨t1,by rw[t2];exact b2, ?_⟩;unfold late at b3 ⊢;simp only[fG,List.any_eq_false] at b3 ⊢;rw[t4];exact⟨b3.1,fun x hx=>b3.2 x (t5.subset hx)⟩
  ·have:(s.boxes.map (·.gid)).Pairwise (fun a b:Int=>a<b):=List.pairwise_map.2 G.Ih;rw[←e1] at this;exact List.pairwise_map.1 this
  ·have:(s.boxes.map (·.name)).Pairwise (fun a b:List UInt8=>a≠b):=List.pairwise_map.2 G.names;rw[←e2] at this;exact List.pairwise_map.1 this
  ·have e:s.boxes.set i b'=s.boxes.take i++b'::s.boxes.drop (i+1):=List.set_eq_take_append_cons_drop.trans (by rw[if_pos hi]);have e':s.boxes=s.boxes.take i++s.boxes[i]::s.boxes.drop (i+1):=by rw[←bA hi,cX]
   have hm:=G.ae;rw[e'] at hm;simp only;rw[e];refine hm.sublist ?_;simp only[List.flatMap_append,cC];exact List.Sublist.append (List.Sublist.refl _) (List.Sublist.append (t5.map _) (List.Sublist.refl _))
 ·exact h
end Mx
namespace Mx
open Go
variable {M:Nat→Option Body}
structure wP where
 i:Nat
 s:aT
 w:Bool
 v1:Nat
 v2:Nat
 ic:Nat
 q:Int
 n:Nat
structure xi where
 R:List (List T)
 u5:Nat
 u8:Nat
 N:Nat
 base:Nat
def BG(s:wP):List T:=if s.w=true then [I s.s.eE,I s.s.time,.row 15502 s.v1 0 s.s.boxes.length,.row 15503 s.v2 0 s.s.gone.length] else ai s.s
def BD(s:wP):List (Nat×Ob):=if s.w=true then [(15502,⟨s.v1,7,true,false,s.s.boxes.map af⟩),(15503,⟨s.v2,1,true,false,az s.s.gone⟩)] else []
def BF(c:xi)(s:wP):List (Nat×Ob):=iw c.R s.ic s.q::(5,⟨c.u5,4,true,true,[BG s]⟩)::(8,⟨c.u8,4,true,true,[ny]⟩)::BD s
def BE(c:xi)(i:Nat)(e:List (Nat×V)):List (Nat×V):=(0,.c (.ptr 0 0 0 0))::(2,.c (I c.N))::(3,.c (I c.base))::(5,.c (.ptr 5 c.u5 0 0))::(8,.c (.ptr 8 c.u8 0 0))::(9,.c (I i))::e
def p_(c:xi)(s:wP)(e:List (Nat×V)):St:={t:=BE c s.i e,o:=BF c s,n:=s.n}
def JX(c:xi)(i:Nat)(s:aT)(w:Bool)(ic:Nat)(q:Int)(e:List (Nat×V))(y:Nat×Nat×Nat):St:=p_ c ⟨i,s,w,y.1,y.2.1,ic,q,y.2.2⟩ e
abbrev Ah(box gid x:Int):List (Nat×V):=[(10,.c (I box)),(11,.c (I gid)),(13,.c (I x))]
def DG(M:Nat→Option Body)(c:xi)(k:Nat)(s:wP)(box gid x:Int)(s':aT)(ic':Nat)(q':Int):Prop:=
 ∃v1' v2' n',ct (run M) k a_.br (p_ c s (Ah box gid x))=some (.normal,p_ c ⟨s.i,s',true,v1',v2',ic',q',n'⟩ [])
structure Mn (s:wP):Prop where
 e7:(s.s.boxes.map af).length=s.s.boxes.length
 e8:(az s.s.gone).length=s.s.gone.length
theorem H0(s:wP):Mn s:=⟨by simp,aM _⟩
theorem Im(c:xi)(k:Nat)(s:wP)(box gid x:Int)(f ic1 ic2:Nat)(tx:ByteArray)(q1 q2:Int)(s':aT)(ok:Bool)(hb:¬box=0)(hx:¬x=0)(hx6:x<6)(hbase:c.base≤1000)(hi:s.i≤1000)
  (h1:run M 125 [.c (.ptr 0 0 0 0),.c (I 8)] [iw c.R s.ic s.q]=some (.c (I f),[iw c.R ic1 q1]))
  (h2:run M 174 [.c (.ptr 0 0 0 0)] [iw c.R ic1 q1]=some (.c (.str tx),[iw c.R ic2 q2]))
  (h3:run M 279 [.a (ai s.s),.c (I box),.c (I ((c.base:Int)+(s.i:Int))),.c (I f),.c (.str tx)] []=some (.ll [.a (aW s'),.c (.bool ok)],[])):
  DG M c k s box gid x s' ic2 q2:=by
 have e4:IntKind.i64.wrap ((c.base:Int)+(s.i:Int))=(c.base:Int)+(s.i:Int):=wrap_i64 (by omega) (by omega);obtain⟨e7,e8⟩:=H0 s;have e9:(s'.boxes.map af).length=s'.boxes.length:=by simp
 have e10:=aM s'.gone;obtain⟨R,u5,u8,N,base⟩:=c;obtain⟨i,st,w,v1,v2,ic,q,n⟩:=s;simp only at*;simp only[DG,p_,BE,BF,BG,BD,Ah];simp only[ai,aW,boxes,ints] at h3 ⊢;have m1:(st.boxes.map af).take st.boxes.length=st.boxes.map af:=ab (by omega);have m2:(az st.gone).take st.gone.length=az st.gone:=ab (by omega);generalize s'.boxes.map af=rb' at*;generalize az s'.gone=rg' at*;generalize st.boxes.map af=rb at*;generalize az st.gone=rg at*;cases w
 ·simp only[au,if_false];simp (maxSteps:=9^9) [a_.br,aa,setAt,h1,h2,h3,hb,hx,hx6,e4,e9,e10]
 ·simp only[if_true];simp (maxSteps:=9^9) [a_.br,aa,setAt,h1,h2,h3,hb,hx,hx6,e4,e7,e8,e9,e10,m1,m2]
theorem FZ(c:xi)(k:Nat)(s:wP)(box gid x:Int)(f ic1:Nat)(q1:Int)(s':aT)(ok:Bool)(hb:¬box=0)(hx:¬x=0)(hx6:¬x<6)(hx9:x<9)
  (h1:run M 125 [.c (.ptr 0 0 0 0),.c (I 8)] [iw c.R s.ic s.q]=some (.c (I f),[iw c.R ic1 q1]))
  (h3:run M 280 [.a (ai s.s),.c (I box),.c (I gid),.c (I f)] []=some (.ll [.a (aW s'),.c (.bool ok)],[])):
  DG M c k s box gid x s' ic1 q1:=by
 obtain⟨e7,e8⟩:=H0 s;have e9:(s'.boxes.map af).length=s'.boxes.length:=by simp
 have e10:=aM s'.gone;obtain⟨R,u5,u8,N,base⟩:=c;obtain⟨i,st,w,v1,v2,ic,q,n⟩:=s;simp only at*;simp only[DG,p_,BE,BF,BG,BD,Ah];simp only[ai,aW,boxes,ints] at h3 ⊢;have m1:(st.boxes.map af).take st.boxes.length=st.boxes.map af:=ab (by omega);have m2:(az st.gone).take st.gone.length=az st.gone:=ab (by omega);generalize s'.boxes.map af=rb' at*;generalize az s'.gone=rg' at*;generalize st.boxes.map af=rb at*;generalize az st.gone=rg at*;cases w
 ·simp only[au,if_false];simp (maxSteps:=9^9) [a_.br,aa,setAt,h1,h3,hb,hx,hx6,hx9,e9,e10]
 ·simp only[if_true];simp (maxSteps:=9^9) [a_.br,aa,setAt,h1,h3,hb,hx,hx6,hx9,e7,e8,e9,e10,m1,m2]
theorem F3(c:xi)(k:Nat)(s:wP)(box gid x:Int)(s':aT)(ok:Bool)(hb:¬box=0)(hx:x=9)
  (h3:run M 281 [.a (ai s.s),.c (I box),.c (I gid)] []=some (.ll [.a (aW s'),.c (.bool ok)],[])):
  DG M c k s box gid x s' s.ic s.q:=by
 subst hx;obtain⟨e7,e8⟩:=H0 s;have e9:(s'.boxes.map af).length=s'.boxes.length:=by simp
 have e10:=aM s'.gone;obtain⟨R,u5,u8,N,base⟩:=c;obtain⟨i,st,w,v1,v2,ic,q,n⟩:=s;simp only at*;simp only[DG,p_,BE,BF,BG,BD,Ah];simp only[ai,aW,boxes,ints] at h3 ⊢;have m1:(st.boxes.map af).take st.boxes.length=st.boxes.map af:=ab (by omega);have m2:(az st.gone).take st.gone.length=az st.gone:=ab (by omega);generalize s'.boxes.map af=rb' at*;generalize az s'.gone=rg' at*;generalize st.boxes.map af=rb at*;generalize az st.gone=rg at*;cases w
 ·simp only[au,if_false];simp (maxSteps:=9^9) [a_.br,aa,setAt,h3,hb,e9,e10]
 ·simp only[if_true];simp (maxSteps:=9^9) [a_.br,aa,setAt,h3,hb,e7,e8,e9,e10,m1,m2]
def KV:List (List UInt8):=[[105,110,98,111,120],[119,111,114,107],[110,101,119],[111,116,104,101,114]]
def KW:List (List UInt8):=[[105,110,98,111,120],[119,111,114,107],[111,108,100]]
theorem FY(c:xi)(k:Nat)(s:wP)(box gid x:Int)(ic1:Nat)(tx:ByteArray)(q1:Int)(s':aT)(ok:Bool)(hb:¬box=0)(hx:x=10)
  (h1:run M 185 [.c (.ptr 0 0 0 0),.c (.sl false 1 (KV.map fun s=>[S s]))] [iw c.R s.ic s.q]=some (.c (.str tx),[iw c.R ic1 q1]))
  (h3:run M 282 [.a (ai s.s),.c (I box),.c (.str tx)] []=some (.ll [.a (aW s'),.c (.bool ok)],[])):
  DG M c k s box gid x s' ic1 q1:=by
 subst hx;obtain⟨e7,e8⟩:=H0 s;have e9:(s'.boxes.map af).length=s'.boxes.length:=by simp
 have e10:=aM s'.gone;simp only[KV,bE,bJ] at h1;obtain⟨R,u5,u8,N,base⟩:=c;obtain⟨i,st,w,v1,v2,ic,q,n⟩:=s;simp only at*;simp only[DG,p_,BE,BF,BG,BD,Ah];simp only[ai,aW,boxes,ints] at h3 ⊢;have m1:(st.boxes.map af).take st.boxes.length=st.boxes.map af:=ab (by omega);have m2:(az st.gone).take st.gone.length=az st.gone:=ab (by omega);generalize s'.boxes.map af=rb' at*;generalize az s'.gone=rg' at*;generalize st.boxes.map af=rb at*;generalize az st.gone=rg at*;cases w
 ·simp only[au,if_false];simp (maxSteps:=9^9) [a_.br,aa,setAt,h1,h3,hb,e9,e10]
 ·simp only[if_true];simp (maxSteps:=9^9) [a_.br,aa,setAt,h1,h3,hb,e7,e8,e9,e10,m1,m2]
theorem F0(c:xi)(k:Nat)(s:wP)(box gid x:Int)(ic1:Nat)(tx:ByteArray)(q1:Int)(s':aT)(ok:Bool)(hb:box=0∨x=0)(hbase:c.base≤1000)(hi:s.i≤1000)
  (h1:run M 185 [.c (.ptr 0 0 0 0),.c (.sl false 1 (KW.map fun s=>[S s]))] [iw c.R s.ic s.q]=some (.c (.str tx),[iw c.R ic1 q1]))
  (h3:run M 278 [.a (ai s.s),.c (I ((c.base:Int)+(s.i:Int))),.c (.str tx)] []=some (.ll [.a (aW s'),.c (.bool ok)],[])):
  DG M c k s box gid x s' ic1 q1:=by
 have e4:IntKind.i64.wrap ((c.base:Int)+(s.i:Int))=(c.base:Int)+(s.i:Int):=wrap_i64 (by omega) (by omega);obtain⟨e7,e8⟩:=H0 s;have e9:(s'.boxes.map af).length=s'.boxes.length:=by simp
 have e10:=aM s'.gone;simp only[KW,bE,bJ] at h1;obtain⟨R,u5,u8,N,base⟩:=c;obtain⟨i,st,w,v1,v2,ic,q,n⟩:=s;simp only at*;simp only[DG,p_,BE,BF,BG,BD,Ah];simp only[ai,aW,boxes,ints] at h3 ⊢;have m1:(st.boxes.map af).take st.boxes.length=st.boxes.map af:=ab (by omega);have m2:(az st.gone).take st.gone.length=az st.gone:=ab (by omega);generalize s'.boxes.map af=rb' at*;generalize az s'.gone=rg' at*;generalize st.boxes.map af=rb at*;generalize az st.gone=rg at*;by_cases hb0:box=0
 ·subst hb0;cases w
  ·simp only[au,if_false];simp (maxSteps:=9^9) [a_.br,aa,setAt,h1,h3,e4,e9,e10]
  ·simp only[if_true];simp (maxSteps:=9^9) [a_.br,aa,setAt,h1,h3,e4,e7,e8,e9,e10,m1,m2]
 ·have hx:x=0:=by omega
  subst hx;cases w
  ·simp only[au,if_false];simp (maxSteps:=9^9) [a_.br,aa,setAt,h1,h3,hb0,e4,e9,e10]
  ·simp only[if_true];simp (maxSteps:=9^9) [a_.br,aa,setAt,h1,h3,hb0,e4,e7,e8,e9,e10,m1,m2]
theorem F1(c:xi)(k:Nat)(s:wP)(box gid x:Int)(ic1:Nat)(q1:Int)(s':aT)(ok:Bool)(hb:¬box=0)(hx:11≤x)
  (h1:run M 175 [.c (.ptr 0 0 0 0),.c (I 3)] [iw c.R s.ic s.q]=some (.c (.bool true),[iw c.R ic1 q1]))
  (h3:run M 283 [.a (ai s.s),.c (I box)] []=some (.ll [.a (aW s'),.c (.bool ok)],[])):
  DG M c k s box gid x s' ic1 q1:=by
 have x0:¬x=0:=by omega
 have x6:¬x<6:=by omega
 have x9:¬x<9:=by omega
 have y9:¬x=9:=by omega
 have y10:¬x=10:=by omega
 obtain⟨e7,e8⟩:=H0 s;have e9:(s'.boxes.map af).length=s'.boxes.length:=by simp
 have e10:=aM s'.gone;obtain⟨R,u5,u8,N,base⟩:=c;obtain⟨i,st,w,v1,v2,ic,q,n⟩:=s;simp only at*;simp only[DG,p_,BE,BF,BG,BD,Ah];simp only[ai,aW,boxes,ints] at h3 ⊢;have m1:(st.boxes.map af).take st.boxes.length=st.boxes.map af:=ab (by omega);have m2:(az st.gone).take st.gone.length=az st.gone:=ab (by omega);generalize s'.boxes.map af=rb' at*;generalize az s'.gone=rg' at*;generalize st.boxes.map af=rb at*;generalize az st.gone=rg at*;cases w
 ·simp only[au,if_false];simp (maxSteps:=9^9) [a_.br,aa,setAt,h1,h3,hb,x0,x6,x9,y9,y10,e9,e10]
 ·simp only[if_true];simp (maxSteps:=9^9) [a_.br,aa,setAt,h1,h3,hb,x0,x6,x9,y9,y10,e7,e8,e9,e10,m1,m2]
theorem FX(c:xi)(k:Nat)(s:wP)(box gid x:Int)(ic1:Nat)(q1:Int)(hb:¬box=0)(hx:11≤x)
  (h1:run M 175 [.c (.ptr 0 0 0 0),.c (I 3)] [iw c.R s.ic s.q]=some (.c (.bool false),[iw c.R ic1 q1])):
  ∃n',ct (run M) k a_.br (p_ c s (Ah box gid x))=some (.normal,p_ c ⟨s.i,s.s,s.w,s.v1,s.v2,ic1,q1,n'⟩ [(10,.c (I box)),(51,.c (.bool false))]):=by
 have x0:¬x=0:=by omega
 have x6:¬x<6:=by omega
 have x9:¬x<9:=by omega
 have y9:¬x=9:=by omega
 have y10:¬x=10:=by omega
 obtain⟨R,u5,u8,N,base⟩:=c;obtain⟨i,st,w,v1,v2,ic,q,n⟩:=s;simp only at*;simp only[p_,BE,BF,BG,BD,Ah];simp only[ai,boxes,ints];generalize st.boxes.map af=rb at*;generalize az st.gone=rg at*;cases w
 ·simp only[au,if_false];simp (maxSteps:=9^9) [a_.br,aa,h1,hb,x0,x6,x9,y9,y10]
 ·simp only[if_true];simp (maxSteps:=9^9) [a_.br,aa,h1,hb,x0,x6,x9,y9,y10]
abbrev F4:List (Nat×V):=[(10,.c (I 0)),(11,.c (I 0))]
theorem Iq(c:xi)(k:Nat)(s:wP)(x:Int)(ic1:Nat)(q1:Int)(hbx:s.s.boxes=[])
  (h1:run M 125 [.c (.ptr 0 0 0 0),.c (I 12)] [iw c.R s.ic s.q]=some (.c (I x),[iw c.R ic1 q1]))
  (X:Nat→St) (hX:∀n,ct (run M) k a_.br (p_ c ⟨s.i,s.s,s.w,s.v1,s.v2,ic1,q1,n⟩ (Ah 0 0 x))=some (.normal,X n)):
  ∃n,ct (run M) k a_.hd (p_ c s F4)=some (.normal,X n):=by
 obtain⟨R,u5,u8,N,base⟩:=c;obtain⟨i,st,w,v1,v2,ic,q,n⟩:=s;simp only at*;simp only[p_,BE,BF,BG,BD,Ah,F4] at hX ⊢;simp only[ai,boxes,ints,hbx,bJ,fE] at hX ⊢;generalize az st.gone=rg at*;cases w
 ·simp only[au,if_false] at hX ⊢;simp (maxSteps:=9^9) [a_.hd,aa,h1,hX];exact⟨_,rfl⟩
 ·simp only[if_true] at hX ⊢;simp (maxSteps:=9^9) [a_.hd,aa,h1,hX];exact⟨_,rfl⟩
theorem Ip(c:xi)(k:Nat)(s:wP)(x:Int)(j ic0 ic1:Nat)(q0 q1:Int)(hj:j<s.s.boxes.length)(hm:s.s.boxes[j].ae=[])
  (h0:run M 125 [.c (.ptr 0 0 0 0),.c (I s.s.boxes.length)] [iw c.R s.ic s.q]=some (.c (I j),[iw c.R ic0 q0]))
  (h1:run M 125 [.c (.ptr 0 0 0 0),.c (I 12)] [iw c.R ic0 q0]=some (.c (I x),[iw c.R ic1 q1]))
  (X:Nat→St) (hX:∀n,ct (run M) k a_.br (p_ c ⟨s.i,s.s,s.w,s.v1,s.v2,ic1,q1,n⟩ (Ah s.s.boxes[j].gid 0 x))=some (.normal,X n)):
  ∃n,ct (run M) k a_.hd (p_ c s F4)=some (.normal,X n):=by
 obtain⟨e7,e8⟩:=H0 s;obtain⟨R,u5,u8,N,base⟩:=c;obtain⟨i,st,w,v1,v2,ic,q,n⟩:=s;simp only at*;have hj':j<st.boxes.length:=hj;have a1:∀hh,(st.boxes.map af)[j]'hh=af st.boxes[j]:=by intro hh;simp
 have m1:(st.boxes.map af).take st.boxes.length=st.boxes.map af:=ab (by omega);have hl:0<st.boxes.length:=by omega
 simp only[p_,BE,BF,BG,BD,Ah,F4] at hX ⊢;simp only[af,ae,ints,hm,bJ] at a1;simp only[ai,boxes,ints] at hX ⊢;generalize st.boxes[j]=b at*;generalize st.boxes.map af=rb at*;generalize az st.gone=rg at*;generalize az b.gone=rbg at*;generalize st.boxes.length=nb at*;cases w
 ·simp only[au,if_false] at hX ⊢;simp (maxSteps:=9^9) [a_.hd,aa,setAt,h0,h1,hX,hl,hj,e7,a1];exact⟨_,rfl⟩
 ·simp only[if_true] at hX ⊢;simp (maxSteps:=9^9) [a_.hd,aa,setAt,h0,h1,hX,hl,hj,e7,a1];exact⟨_,rfl⟩
theorem Io(c:xi)(k:Nat)(s:wP)(x:Int)(j l ic0 ic1 ic2:Nat)(q0 q1 q2:Int)(hj:j<s.s.boxes.length)(hl:l<s.s.boxes[j].ae.length)
  (h0:run M 125 [.c (.ptr 0 0 0 0),.c (I s.s.boxes.length)] [iw c.R s.ic s.q]=some (.c (I j),[iw c.R ic0 q0]))
  (h2:run M 125 [.c (.ptr 0 0 0 0),.c (I s.s.boxes[j].ae.length)] [iw c.R ic0 q0]=some (.c (I l),[iw c.R ic2 q2]))
  (h1:run M 125 [.c (.ptr 0 0 0 0),.c (I 12)] [iw c.R ic2 q2]=some (.c (I x),[iw c.R ic1 q1]))
  (X:Nat→St) (hX:∀n,ct (run M) k a_.br (p_ c ⟨s.i,s.s,s.w,s.v1,s.v2,ic1,q1,n⟩ (Ah s.s.boxes[j].gid (s.s.boxes[j].ae[l]).gid x))=some (.normal,X n)):
  ∃n,ct (run M) k a_.hd (p_ c s F4)=some (.normal,X n):=by
 obtain⟨e7,e8⟩:=H0 s;obtain⟨R,u5,u8,N,base⟩:=c;obtain⟨i,st,w,v1,v2,ic,q,n⟩:=s;simp only at*;have hj':j<st.boxes.length:=hj;have hl':l<st.boxes[j].ae.length:=hl;have a1:∀hh,(st.boxes.map af)[j]'hh=af st.boxes[j]:=by intro hh;simp
 have a2:∀hh:l<(st.boxes[j].ae.map ah).length,(st.boxes[j].ae.map ah)[l]'hh=ah (st.boxes[j].ae[l]'hl'):=by intro hh;simp
 have e9:(st.boxes[j].ae.map ah).length=st.boxes[j].ae.length:=by simp
 have m1:(st.boxes.map af).take st.boxes.length=st.boxes.map af:=ab (by omega);have m2:(st.boxes[j].ae.map ah).take st.boxes[j].ae.length=st.boxes[j].ae.map ah:=ab (by omega);have hl0:0<st.boxes.length:=by omega
 have hl1:0<st.boxes[j].ae.length:=by omega
 simp only[p_,BE,BF,BG,BD,Ah,F4] at hX ⊢;simp only[af,ae,ints] at a1;simp only[ah] at a2;simp only[ai,boxes,ints] at hX ⊢;generalize st.boxes[j].ae[l]=m at*;generalize st.boxes[j].ae.map ah=rm at*;generalize st.boxes[j].ae.length=nm at*;generalize st.boxes[j]=b at*;generalize st.boxes.map af=rb at*;generalize az st.gone=rg at*;generalize az b.gone=rbg at*;generalize st.boxes.length=nb at*;cases w
 ·simp only[au,if_false] at hX ⊢;simp (maxSteps:=9^9) [a_.hd,aa,setAt,h0,h1,h2,hX,hl,hl0,hl1,hj,e7,e9,a1,a2];exact⟨_,rfl⟩
 ·simp only[if_true] at hX ⊢;simp (maxSteps:=9^9) [a_.hd,aa,setAt,h0,h1,h2,hX,hl,hl0,hl1,hj,e7,e9,a1,a2];exact⟨_,rfl⟩
abbrev KM(e:Bool)(g:Int):List (Nat×V):=if e=true then [(10,.c (I g)),(51,.c (.bool false))] else []
theorem JW(c:xi)(k:Nat)(s:wP)(st':aT)(w':Bool)(ic':Nat)(q':Int)(e:Bool)(g:Int)(hi:s.i<c.N)(hN:c.N≤1000)
  (hX:∀n,∃y,ct (run M) k a_.hd (p_ c {s with n:=n} F4)=some (.normal,JX c s.i st' w' ic' q' (KM e g) y)):
  ∃y,ct (run M) k a_.l0 (p_ c s [])=some (.normal,JX c (s.i+1) st' w' ic' q' [] y):=by
 obtain⟨X,hX⟩:=Classical.skolem.1 hX;obtain⟨R,u5,u8,N,base⟩:=c;obtain⟨i,st,w,v1,v2,ic,q,n⟩:=s;simp only at*;have e5:=cA (i:=i) (by omega);simp only[JX,p_,BE,BF,BG,BD,F4,KM] at hX ⊢;simp only[ai,boxes,ints] at hX ⊢;generalize st.boxes.map af=rb at*;generalize az st.gone=rg at*;generalize st'.boxes.map af=rb' at*;generalize az st'.gone=rg' at*;cases w<;>cases w'<;>cases e<;>simp only[au,if_false,if_true] at hX ⊢<;>simp (maxSteps:=9^9) [a_.l0,hX,hi,e5]<;>exact⟨_,_,_,⟨⟨rfl,rfl⟩,rfl,rfl⟩,rfl⟩
theorem Ir(c:xi)(k:Nat)(s:wP)(hi:¬s.i<c.N):
  ∃n',ct (run M) k a_.l0 (p_ c s [])=some (.exit 0,p_ c {s with n:=n'} [(16,.c (.bool false))]):=by
 obtain⟨R,u5,u8,N,base⟩:=c;obtain⟨i,st,w,v1,v2,ic,q,n⟩:=s;simp only at*;simp only[p_,BE,BF,BG,BD];simp only[ai,boxes,ints];generalize st.boxes.map af=rb at*;generalize az st.gone=rg at*;cases w<;>simp only[au,if_false,if_true]<;>simp (maxSteps:=9^9) [a_.l0,hi]
end Mx
namespace Mx
open Go
def Me(b:bz)(g:Int):Prop:=b.gid=g∨g∈b.gone∨∃m∈b.ae,m.gid=g
def Kn(s:aT)(g:Int):Prop:=(∃b∈s.boxes,Me b g)∨g∈s.gone
theorem zQ{l:List bz}{g:Int}:(kU l g).isSome=true↔∃b∈l,b.gid=g:=by
 unfold kU;rw[←p9,List.any_eq_true];simp
theorem yA{l:List bo}{g:Int}:(fD l g).isSome=true↔∃m∈l,m.gid=g:=by
 cases q:fD l g with
 |none=>simpa using om.1 q
 |some k=>obtain⟨h1,h2,_⟩:=my q;simpa using⟨_,ax h1,h2⟩
theorem CW{s:aT}{g:Int}:nC s g=true↔Kn s g:=by
 unfold nC Kn;simp only[Bool.or_eq_true,zQ,decide_eq_true_eq,List.any_eq_true,m7,yA,Me];constructor
 ·rintro ((⟨b,h1,h2⟩|h)|⟨b,h1,h2|h2⟩)
  ·exact .inl ⟨b,h1,.inl h2⟩
  ·exact .inr h
  ·exact .inl ⟨b,h1,.inr (.inr h2)⟩
  ·exact .inl ⟨b,h1,.inr (.inl h2)⟩
 ·rintro (⟨b,h1,h2|h2|h2⟩|h)
  ·exact .inl (.inl ⟨b,h1,h2⟩)
  ·exact .inr ⟨b,h1,.inr h2⟩
  ·exact .inr ⟨b,h1,.inl h2⟩
  ·exact .inl (.inr h)
def vI:List (List UInt8):=[[105,110,98,111,120],[119,111,114,107],[110,101,119],[111,116,104,101,114],[111,108,100]]
structure uy (b:bz):Prop where
 name:b.name∈vI
 kn:∀g,Me b g→100≤g∧g≤999
structure Used (n:Nat) (s:aT):Prop where
 ok:bc s=true
 time:s.time≤n
 gone:s.gone.length≤n
 box:∀b∈s.boxes,uy b
 kn:∀g∈s.gone,100≤g∧g≤999
theorem Used.all{n:Nat}{s:aT}(h:Used n s){g:Int}(k:Kn s g):100≤g∧g≤999:=by
 rcases k with⟨b,h1,h2⟩|k
 ·exact(h.box b h1).kn g h2
 ·exact h.kn g k
theorem Used.mono{n m:Nat}{s:aT}(h:Used n s)(hm:n≤m):Used m s:=⟨h.ok,by have:=h.time;omega,by have:=h.gone;omega,h.box,h.kn⟩
theorem uX{w:Int}(h1:1≤w)(h2:w≤2):Used 0 ⟨w,0,[],[]⟩:=
 ⟨ie.2 ⟨⟨h1,h2⟩,by simp,by simp,List.Pairwise.nil,by simp,by simp,by simp,List.Pairwise.nil,List.Pairwise.nil,List.nodup_nil⟩,by simp,by simp,by simp,by simp⟩
theorem pt{n:Nat}{s:aT}(h:Used n s)(i:Nat){b:bz}(hb:uy b):Used (n+1) (stamped s i b).1:=by
 have hok:=pA h.ok i b;unfold stamped at hok ⊢;split
 ·rename_i c;rw[if_pos c] at hok;refine⟨hok,by have:=h.time;simp only[gg];omega,by have:=h.gone;simp only[gg];omega,fun x hx=> ?_,h.kn⟩;rcases List.mem_or_eq_of_mem_set hx with q|q
  ·exact h.box x q
  ·rw[q];exact hb
 ·exact h.mono (by omega)
theorem yf{n:Nat}{s:aT}(h:Used n s)(g:Int)(f:Nat→bz→aT×Bool)(hf:∀i (hi:i<s.boxes.length),s.boxes[i].gid=g→Used (n+1) (f i s.boxes[i]).1):Used (n+1) (at_ s g f).1:=by
 cases c:kU s.boxes g with
 |none=>rw[lh c];exact h.mono (by omega)
 |some i=>
  obtain⟨hi,hb⟩:=iB c;rw[lg c hi];exact hf i hi (j1 hb).2
theorem Cz{b:bz}(h:uy b){m:Int}(hm:100≤m∧m≤999)(f:Int)(x:List UInt8)(t w:Int):uy (j5 b m f x t w).1:=by
 unfold j5;split
 ·refine⟨h.name,fun g k=> ?_⟩;rcases k with k|k|⟨y,hy,k⟩
  ·exact h.kn g (.inl k)
  ·exact h.kn g (.inr (.inl k))
  ·rcases List.mem_append.1 hy with q|q
   ·exact h.kn g (.inr (.inr ⟨y,q,k⟩))
   ·simp only[gu] at q;subst q;rw[←k];exact hm
 ·exact h
theorem Ap{b:bz}(h:uy b)(m n t w:Int):uy (jo b m n t w).1:=by
 unfold jo;split
 ·exact h
 ·rename_i k hk;split
  ·exact h
  ·rename_i y hy;split
   ·refine⟨h.name,fun g k=> ?_⟩;rcases k with k|k|⟨z,hz,k⟩
    ·exact h.kn g (.inl k)
    ·exact h.kn g (.inr (.inl k))
    ·rcases List.mem_or_eq_of_mem_set hz with q|q
     ·exact h.kn g (.inr (.inr ⟨z,q,k⟩))
     ·subst q;exact h.kn g (.inr (.inr ⟨y,iA hy,k⟩))
   ·exact h
theorem Ao{b:bz}(h:uy b)(m:Int):uy (jH b m).1:=by
 unfold jH;cases q:fD b.ae m with
 |none=>exact h
 |some k=>
  obtain⟨h1,h2,_⟩:=my q;simp only;split
  ·refine⟨h.name,fun g z=> ?_⟩;rcases z with z|z|⟨y,hy,z⟩
   ·exact h.kn g (.inl z)
   ·rcases nE.1 z with e|e
    ·exact h.kn g (.inr (.inr ⟨_,ax h1,by rw[e];exact h2⟩))
    ·exact h.kn g (.inr (.inl e))
   ·exact h.kn g (.inr (.inr ⟨y,(mm b.ae k).subset hy,z⟩))
  ·exact h
theorem DK{n:Nat}{s:aT}(h:Used n s)(g:Int){m:Int}(hm:100≤m∧m≤999)(f:Int)(x:List UInt8):Used (n+1) (lG s g m f x).1:=by
 unfold lG;split
 ·refine yf h _ _ fun i hi _=> ?_
  split
  ·exact pt h _ (Cz (h.box _ (ax hi)) hm _ _ _ _)
  ·exact h.mono (by omega)
 ·exact h.mono (by omega)
theorem Cs{n:Nat}{s:aT}(h:Used n s)(g m f:Int):Used (n+1) (kf s g m f).1:=by
 unfold kf;rw[if_pos h.ok];refine yf h _ _ fun i hi _=> ?_
 split
 ·exact pt h _ (Ap (h.box _ (ax hi)) _ _ _ _)
 ·exact h.mono (by omega)
theorem Cw{n:Nat}{s:aT}(h:Used n s)(g m:Int):Used (n+1) (kE s g m).1:=by
 have hok:=qu h.ok g m;unfold kE at hok ⊢;rw[if_pos h.ok] at hok ⊢;cases c:kU s.boxes g with
 |none=>rw[lh c];exact h.mono (by omega)
 |some i=>
  obtain⟨hi,hb⟩:=iB c;rw[lg c hi] at hok ⊢;split
  ·rename_i z;rw[if_pos z] at hok;refine⟨hok,by have:=h.time;simp only;omega,by have:=h.gone;simp only;omega,fun x hx=> ?_,h.kn⟩;rcases List.mem_or_eq_of_mem_set hx with q|q
   ·exact h.box x q
   ·rw[q];exact Ao (h.box _ (ax hi)) m
  ·exact h.mono (by omega)
theorem Cr{n:Nat}{s:aT}(h:Used n s)(g:Int){nm:List UInt8}(hn:nm∈vI):Used (n+1) (jI s g nm).1:=by
 unfold jI;split
 ·exact yf h _ _ fun i hi _=>pt h _ ⟨hn,fun g k=>(h.box _ (ax hi)).kn g k⟩
 ·exact h.mono (by omega)
theorem Cu{n:Nat}{s:aT}(h:Used n s){g:Int}(hg:100≤g∧g≤999){nm:List UInt8}(hn:nm∈vI):Used (n+1) (k_ s g nm).1:=by
 have hok:=rN h.ok g nm;unfold k_ at hok ⊢;split
 ·rename_i c;rw[if_pos c] at hok;split
  ·rename_i z;rw[if_pos z] at hok;refine⟨hok,by have:=h.time;simp only[fS];omega,by have:=h.gone;simp only[fS];omega,fun x hx=> ?_,h.kn⟩;simp only[fS,gP,fi,gu] at hx;rcases hx with (q|q)|q
   ·exact h.box x q.1
   ·rw[q];refine⟨hn,fun g k=> ?_⟩;rcases k with k|k|⟨m,hm,k⟩
    ·rw[←k];exact hg
    ·simp[jB] at k
    ·simp[jB] at hm
   ·exact h.box x q.1
  ·exact h.mono (by omega)
 ·exact h.mono (by omega)
theorem Cv{n:Nat}{s:aT}(h:Used n s){g:Int}(hg:100≤g∧g≤999):Used (n+1) (lI s g).1:=by
 have hok:=rT h.ok (g:=g) ⟨by omega,by omega⟩;unfold lI at hok ⊢;split
 ·rename_i c;rw[if_pos c] at hok;cases q:kU s.boxes g with
  |none=>rw[lh q];exact h.mono (by omega)
  |some i=>
   obtain⟨hi,hbi⟩:=iB q;rw[lg q hi] at hok ⊢;have:=uQ s.gone g;refine⟨hok,by have:=h.time;simp only;omega,by have:=h.gone;simp only;omega,fun x hx=>h.box x ((mm s.boxes i).subset hx),fun x hx=> ?_⟩;rcases nE.1 hx with e|e
   ·rw[e];exact hg
   ·exact h.kn x e
 ·exact h.mono (by omega)
theorem ke{s:aT}(h:bc s=true):lW s:=by
 have G:=ie.1 h;have H:=eh h;exact⟨⟨by have:=G.len;omega,by have:=G.mG;omega,fun b hb=>(H.boxes.lf b hb).th,by have:=m8 h;omega⟩,by have:=G.time;omega,by have:=G.time;omega⟩
structure qb (p:Bool) (n:Nat) (s:aT):Prop where
 ok:bc s=true
 use:p=true→Used n s
theorem qb.mono{p:Bool}{n m:Nat}{s:aT}(h:qb p n s)(hm:n≤m):qb p m s:=⟨h.ok,fun e=>(h.use e).mono hm⟩
theorem Cy{w:Int}(h1:1≤w)(h2:w≤2)(p:Bool):qb p 0 ⟨w,0,[],[]⟩:=⟨(uX h1 h2).ok,fun _=>uX h1 h2⟩
theorem qb.box{p:Bool}{n:Nat}{s:aT}(h:qb p n s){b:bz}(hb:b∈s.boxes):(1≤b.gid∧b.gid≤9999)∧(p=true→100≤b.gid∧b.gid≤999):=
 ⟨((ie.1 h.ok).box b hb).1.gid,fun e=>((h.use e).box b hb).kn _ (.inl rfl)⟩
end Mx
namespace Mx
open Go
variable {M:Nat→Option Body}
structure Mc (M:Nat→Option Body):Prop where
 below:bD.k M
 text:fU.k M
 once:gU.k M
 pick:dS.k M
 make:bT.k M
 put:dq.k M
 mark:dg.k M
 drop:dh.k M
 name:cF.k M
 LQ:dv.k M
theorem ye(K:Mc M)(c:xi)(hR:Bytes c.R)(k:Nat)(p:Bool)(m:Nat)(st:aT)(hs:qb p m st)(i ic:Nat)(q:Int)(hic:ic≤c.R.length)(hb1:100≤c.base)(hb2:c.base+i≤999)(w:Bool)(v1 v2:Nat)(box gid:Int)(x:Nat)
  (hbox:box=0∨(1≤box∧box≤9999)∧(p=true→100≤box∧box≤999)):
  ∃(e:Bool) (st':aT) (w':Bool) (ic':Nat) (q':Int),qb p (m+1) st'∧ic'≤c.R.length∧(box=0∨w=true→w'=true)∧
   ∀n,∃y,ct (run M) k a_.br (p_ c ⟨i,st,w,v1,v2,ic,q,n⟩ (Ah box gid x))=some (.normal,JX c i st' w' ic' q' (KM e box) y):=by
 have hg:100≤(c.base:Int)+(i:Int)∧(c.base:Int)+(i:Int)≤999:=⟨by omega,by omega⟩;have n3:∀s∈KW,s∈vI∧s.length≤12:=by decide
 have n4:∀s∈KV,s∈vI∧s.length≤12:=by decide
 by_cases c0:box=0∨x=0
 ·obtain⟨nm,ic1,q1,hnm,hc1,h1⟩:=dS.ar K.pick hR ic q hic KW (by decide) (by decide);have h3:=bT.ar K.make st (ke hs.ok) ((c.base:Int)+(i:Int)) nm (by have:=(n3 nm hnm).2;omega);refine⟨false,_,true,ic1,q1,⟨rN hs.ok _ _,fun z=>Cu (hs.use z) hg (n3 nm hnm).1⟩,hc1,fun _=>rfl,fun n=> ?_⟩;obtain⟨v1',v2',n',h⟩:=F0 c k ⟨i,st,w,v1,v2,ic,q,n⟩ box gid x ic1 _ q1 _ _ (by omega) (by omega) (by simp only;omega) h1 h3;exact⟨(v1',v2',n'),h⟩
 have d0:¬box=0:=fun e=>c0 (.inl e)
 have d1:¬(x:Int)=0:=fun e=>c0 (.inr (by omega))
 by_cases c6:x<6
 ·obtain⟨f,ic1,q1,hf,hc1,h1⟩:=bD.ar K.below hR ic q hic 8 (by omega) (by omega);simp only[bR] at h1;obtain⟨tx,ic2,q2,htx,hc2,h2⟩:=fU.ar K.text hR ic1 q1 hc1;have h3:=dq.ar K.put st (ke hs.ok) box ((c.base:Int)+(i:Int)) f tx;refine⟨false,_,true,ic2,q2,⟨vC hs.ok _ _ _ _,fun z=>DK (hs.use z) box hg f tx⟩,hc2,fun _=>rfl,fun n=> ?_⟩;obtain⟨v1',v2',n',h⟩:=Im c k ⟨i,st,w,v1,v2,ic,q,n⟩ box gid x f ic1 ic2 _ q1 q2 _ _ d0 d1 (by omega) (by omega) (by simp only;omega) h1 h2 h3;exact⟨(v1',v2',n'),h⟩
 by_cases c9:x<9
 ·obtain⟨f,ic1,q1,hf,hc1,h1⟩:=bD.ar K.below hR ic q hic 8 (by omega) (by omega);simp only[bR] at h1;have h3:=dg.ar K.mark st (ke hs.ok) box gid f;refine⟨false,_,true,ic1,q1,⟨tY hs.ok _ _ _,fun z=>Cs (hs.use z) box gid f⟩,hc1,fun _=>rfl,fun n=> ?_⟩;obtain⟨v1',v2',n',h⟩:=FZ c k ⟨i,st,w,v1,v2,ic,q,n⟩ box gid x f ic1 q1 _ _ d0 d1 (by omega) (by omega) h1 h3;exact⟨(v1',v2',n'),h⟩
 by_cases c10:x=9
 ·have h3:=dh.ar K.drop st (ke hs.ok) box gid;refine⟨false,_,true,ic,q,⟨qu hs.ok _ _,fun z=>Cw (hs.use z) box gid⟩,hic,fun _=>rfl,fun n=> ?_⟩;obtain⟨v1',v2',n',h⟩:=F3 c k ⟨i,st,w,v1,v2,ic,q,n⟩ box gid x _ _ d0 (by omega) h3;exact⟨(v1',v2',n'),h⟩
 by_cases c11:x=10
 ·obtain⟨nm,ic1,q1,hnm,hc1,h1⟩:=dS.ar K.pick hR ic q hic KV (by decide) (by decide);have h3:=cF.ar K.name st (ke hs.ok) box nm (by have:=(n4 nm hnm).2;omega);refine⟨false,_,true,ic1,q1,⟨si hs.ok _ _,fun z=>Cr (hs.use z) box (n4 nm hnm).1⟩,hc1,fun _=>rfl,fun n=> ?_⟩;obtain⟨v1',v2',n',h⟩:=FY c k ⟨i,st,w,v1,v2,ic,q,n⟩ box gid x ic1 _ q1 _ _ d0 (by omega) h1 h3;exact⟨(v1',v2',n'),h⟩
 obtain⟨z,ic1,q1,hc1,h1⟩:=gU.ar K.once hR ic q hic 3 (by omega) (by omega);simp only[bR] at h1;cases z
 ·refine⟨true,st,w,ic1,q1,hs.mono (by omega),hc1,fun h=>h.resolve_left d0,fun n=> ?_⟩;obtain⟨n',h⟩:=FX c k ⟨i,st,w,v1,v2,ic,q,n⟩ box gid x ic1 q1 d0 (by omega) h1;exact⟨(v1,v2,n'),h⟩
 ·have h3:=dv.ar K.LQ st (ke hs.ok) box;refine⟨false,_,true,ic1,q1,⟨rT hs.ok (hbox.resolve_left d0).1,fun z=>Cv (hs.use z) ((hbox.resolve_left d0).2 z)⟩,hc1,fun _=>rfl,fun n=> ?_⟩;obtain⟨v1',v2',n',h⟩:=F1 c k ⟨i,st,w,v1,v2,ic,q,n⟩ box gid x ic1 q1 _ _ d0 (by omega) h1 h3;exact⟨(v1',v2',n'),h⟩
structure Jp (c:xi) (p:Bool) (m:Nat) (s0:aT) (s:wP):Prop where
 i:s.i≤c.N
 use:qb p (m+s.i) s.s
 ic:s.ic≤c.R.length
 w:s0.boxes≠[]∨(s.i=0∧s.s=s0)∨s.w=true
theorem DJ(K:Mc M)(c:xi)(hR:Bytes c.R)(k:Nat)(p:Bool)(m:Nat)(s0:aT)(hb1:100≤c.base)(hb2:c.base+c.N≤1000)(s:wP)(hs:Jp c p m s0 s)(hi:s.i<c.N):
  ∃s',ct (run M) k a_.l0 (p_ c s [])=some (.normal,p_ c s' [])∧Jp c p m s0 s'∧s'.i=s.i+1:=by
 have fin:∀(box:Int) (e:Bool) (st':aT) (w':Bool) (ic':Nat) (q':Int),qb p (m+s.i+1) st'→ic'≤c.R.length→(s0.boxes≠[]∨w'=true)→
   (∀n,∃y,ct (run M) k a_.hd (p_ c {s with n:=n} F4)=some (.normal,JX c s.i st' w' ic' q' (KM e box) y))→
   ∃s',ct (run M) k a_.l0 (p_ c s [])=some (.normal,p_ c s' [])∧Jp c p m s0 s'∧s'.i=s.i+1:=by
  intro box e st' w' ic' q' hu hc hw hX;obtain⟨y,hy⟩:=JW c k s st' w' ic' q' e box hi (by omega) hX;exact⟨⟨s.i+1,st',w',y.1,y.2.1,ic',q',y.2.2⟩,hy,⟨by simp only;omega,hu,hc,hw.imp_right .inr⟩,rfl⟩
 by_cases hbx:s.s.boxes=[]
 ·obtain⟨x,ic1,q1,hx,hc1,h1⟩:=bD.ar K.below hR s.ic s.q hs.ic 12 (by omega) (by omega);simp only[bR] at h1;obtain⟨e,st',w',ic',q',hu,hc',hw,hd⟩:=ye K c hR k p (m+s.i) s.s hs.use s.i ic1 q1 hc1 hb1 (by omega) s.w s.v1 s.v2 0 0 x (.inl rfl);obtain⟨Y,hY⟩:=Classical.skolem.1 hd;exact fin 0 e st' w' ic' q' hu hc' (.inr (hw (.inl rfl))) fun n=>by
   obtain⟨n1,h⟩:=Iq c k {s with n:=n} x ic1 q1 hbx h1 _ hY;exact⟨_,h⟩
 have hne:s0.boxes≠[]∨s.w=true:=by
  rcases hs.w with h|⟨_,h⟩|h
  ·exact .inl h
  ·left;rw[←h];exact hbx
  ·exact .inr h
 have hl:0<s.s.boxes.length:=List.length_pos_iff.2 hbx;have G:=ie.1 hs.use.ok;obtain⟨j,ic0,q0,hj,hc0,h0⟩:=bD.ar K.below hR s.ic s.q hs.ic s.s.boxes.length hl (by have:=G.len;omega);have hbox:=hs.use.box (ax hj);by_cases hml:s.s.boxes[j].ae=[]
 ·obtain⟨x,ic1,q1,hx,hc1,h1⟩:=bD.ar K.below hR ic0 q0 hc0 12 (by omega) (by omega);simp only[bR] at h1;obtain⟨e,st',w',ic',q',hu,hc',hw,hd⟩:=ye K c hR k p (m+s.i) s.s hs.use s.i ic1 q1 hc1 hb1 (by omega) s.w s.v1 s.v2 s.s.boxes[j].gid 0 x (.inr hbox);obtain⟨Y,hY⟩:=Classical.skolem.1 hd;exact fin _ e st' w' ic' q' hu hc' (hne.imp_right fun h=>hw (.inr h)) fun n=>by
   obtain⟨n1,h⟩:=Ip c k {s with n:=n} x j ic0 ic1 q0 q1 hj hml h0 h1 _ hY;exact⟨_,h⟩
 ·have hl2:0<s.s.boxes[j].ae.length:=List.length_pos_iff.2 hml;have GB:=(G.box _ (ax hj)).1;obtain⟨l,ic2,q2,hl,hc2,h2⟩:=bD.ar K.below hR ic0 q0 hc0 s.s.boxes[j].ae.length hl2 (by have:=GB.len;omega);obtain⟨x,ic1,q1,hx,hc1,h1⟩:=bD.ar K.below hR ic2 q2 hc2 12 (by omega) (by omega);simp only[bR] at h1;obtain⟨e,st',w',ic',q',hu,hc',hw,hd⟩:=ye K c hR k p (m+s.i) s.s hs.use s.i ic1 q1 hc1 hb1 (by omega) s.w s.v1 s.v2 s.s.boxes[j].gid (s.s.boxes[j].ae[l]).gid x (.inr hbox);obtain⟨Y,hY⟩:=Classical.skolem.1 hd;exact fin _ e st' w' ic' q' hu hc' (hne.imp_right fun h=>hw (.inr h)) fun n=>by
   obtain⟨n1,h⟩:=Io c k {s with n:=n} x j l ic0 ic1 ic2 q0 q1 q2 hj hl h0 h2 h1 _ hY;exact⟨_,h⟩
theorem F2(K:Mc M)(c:xi)(hR:Bytes c.R)(k:Nat)(p:Bool)(m:Nat)(s0:aT)(hb1:100≤c.base)(hb2:c.base+c.N≤1000)(s:wP)(hs:Jp c p m s0 s)(hk:c.N<k):
  ∃s',eG (ct (run M) k a_.l0) k (p_ c s [])=some (.exit 0,p_ c s' [(16,.c (.bool false))])∧Jp c p m s0 s'∧s'.i=c.N:=by
 obtain⟨r,hr,s',rfl,hI⟩:=kq (f:=ct (run M) k a_.l0) (fun s=>p_ c s []) (Jp c p m s0) (fun s=>c.N-s.i) (fun r=>∃s',r=(.exit 0,p_ c s' [(16,.c (.bool false))])∧Jp c p m s0 s'∧s'.i=c.N)
  (fun s hs=>by
   by_cases hi:s.i<c.N
   ·left;obtain⟨s',h1,h2,h3⟩:=DJ K c hR k p m s0 hb1 hb2 s hs hi;exact⟨s',h1,h2,by omega⟩
   ·right;obtain⟨n',h⟩:=Ir (M:=M) c k s hi;have:=hs.i;exact⟨_,h,by simp,_,rfl,⟨hs.i,hs.use,hs.ic,hs.w⟩,by simp only;omega⟩) k s hs (by omega)
 exact⟨s',hr,hI⟩
abbrev tn(w:Bool)(s:aT):List T:=[I s.eE,I s.time,.sl w 7 (s.boxes.map af),.sl w 1 (az s.gone)]
theorem a_.ar(h:a_.k M){R:List (List T)}(hR:Bytes R)(i:Nat)(q:Int)(hi:i≤R.length)(p:Bool)(m:Nat)(s:aT)(hs:qb p m s)(N base:Nat)(h1:100≤base)(h2:base+N≤1000):
  ∃(s':aT) (w:Bool) (i':Nat) (q':Int),qb p (m+N) s'∧(s.boxes=[]→0<N→w=true)∧i'≤R.length∧
   run M 244 [.c (.ptr 0 0 0 0),.a (ai s),.c (I N),.c (I base)] [iw R i q]=some (.a (tn w s'),[iw R i' q']):=by
 obtain⟨h0,kb,kt,ko,kp,km,kpu,kma,kdm,kn,kdb⟩:=h;obtain⟨⟨i',s',w,v1,v2,ic,q',n⟩,hr,hI,hi'⟩:=F2 ⟨kb,kt,ko,kp,km,kpu,kma,kdm,kn,kdb⟩ ⟨R,2000000,2000016,N,base⟩ hR (N+1) p m s h1 h2 ⟨0,s,false,0,0,i,q,2000048⟩ ⟨Nat.zero_le _,hs,hi,.inr (.inl ⟨rfl,rfl⟩)⟩ (by simp);obtain⟨_,hu,hc,hw⟩:=hI;simp only at hi' hu hc hw;subst hi';refine⟨s',w,ic,q',hu,fun e hN=> ?_,hc,aB (b:=a_.m) h0 ⟨i'+1, ?_⟩⟩
 ·rcases hw with h|⟨h,_⟩|h
  ·exact(h e).elim
  ·omega
  ·exact h
 have e0:((0:Nat):Int)=0:=rfl;have e7:(s'.boxes.map af).length=s'.boxes.length:=by simp
 have e8:=aM s'.gone;have m1:(s'.boxes.map af).take s'.boxes.length=s'.boxes.map af:=ab (by omega);have m2:(az s'.gone).take s'.gone.length=az s'.gone:=ab (by omega);simp only[p_,BE,BF,BG,BD,e0] at hr;simp only[ai,tn,boxes,ints] at hr ⊢;generalize s'.boxes.map af=rb' at*;generalize az s'.gone=rg' at*;generalize s.boxes.map af=rb at*;generalize az s.gone=rg at*;cases w
 ·simp only[au,if_false] at hr;simp (maxSteps:=9^9) [bl,a_.m,a_.b,aa,setAt,hr]
 ·simp only[au,if_false,if_true] at hr;simp (maxSteps:=9^9) [bl,a_.m,a_.b,aa,setAt,hr,e7,e8,m1,m2]
theorem fe.ar(h:fe.k M)(w:Int):run M 113 [.c (I w)] []=some (.a [I w,I 0,.sl true 7 [],.sl true 1 []],[]):=by
 refine aB (b:=fe.m) h ⟨0, ?_⟩;simp (maxSteps:=9^9) [bl,fe.m,fe.b,aa,setAt]
structure FG (b:bz):Prop where
 lR:gT b
 m:b.ae.length≤10
 g:b.gone.length≤50
structure Cm (s:aT):Prop where
 t:lW s
 b:s.boxes.length≤5
 g:s.gone.length≤21
 box:∀b∈s.boxes,FG b
theorem BB{s:aT}(t: -1000000≤s.time∧s.time≤1000000)(b:s.boxes.length≤5)(g:s.gone.length≤21)(box:∀b∈s.boxes,FG b):Cm s:=by
 have key:∀l:List bz,(∀x∈l,x.ae.length≤10)→(l.flatMap b5).length≤10*l.length:=by
  intro l
  induction l with
  |nil=>intro _;simp
  |cons x l ih=>
   intro h;have h1:=ih fun y hy=>h y (bp _ hy)
   have h2:=h x (bj ..);simp only[cC,aF,b5,fP,b7] at h1 ⊢;omega
 have:=key s.boxes fun x hx=>(box x hx).m
 exact⟨⟨⟨by omega,by omega,fun x hx=>(box x hx).lR,by omega⟩,by omega,by omega⟩,b,g,box⟩
theorem Good.Il{b:bz}(h:Good b):FG b:=⟨h.th,h.len,by have:=h.mG;omega⟩
theorem Used.Il{n:Nat}{s:aT}(h:Used n s):Cm s:=by
 have G:=ie.1 h.ok;exact BB ⟨by have:=G.time;omega,by have:=G.time;omega⟩ G.len (by have:=G.mG;omega) fun b hb=>(G.box b hb).1.Il
def mc(s:List bo×List Int)(m:bo):List bo×List Int:=if m.gid∈s.2 then s else(s.1++[m],s.2++[m.gid])
theorem rL(s0:List Int):∀(ms:List bo) (l:List bo) (s:List Int),(e_ ms).Nodup→(∀m∈ms,m.gid∈s↔m.gid∈s0)→(∀g,g∈s0→g∈s)→
  (ms.foldl mc (l,s)).1=l++ms.filter (fun m=> !decide (m.gid∈s0))∧∀g,g∈(ms.foldl mc (l,s)).2↔g∈s∨g∈e_ ms
 |[],l,s,_,_,_=>by simp[e_]
 |m::ms,l,s,hn,h1,h2=>by
  have hn':m.gid∉e_ ms∧(e_ ms).Nodup:=by
   have:=List.nodup_cons.1 (show (m.gid::e_ ms).Nodup from hn);exact this
  rw[eH,h_];have hm:=h1 m (bj ..);by_cases c:m.gid∈s
  ·have c0:=hm.1 c;have e:mc (l,s) m=(l,s):=by unfold mc;rw[if_pos c]
   rw[e];obtain⟨q1,q2⟩:=rL s0 ms l s hn'.2 (fun x hx=>h1 x (bp _ hx)) h2;refine⟨by rw[q1];simp[c0],fun g=> ?_⟩;rw[q2];simp only[e_,bE,sV];constructor
   ·rintro (q|q)
    ·exact .inl q
    ·exact .inr (.inr q)
   ·rintro (q|q|q)
    ·exact .inl q
    ·rw[q];exact .inl c
    ·exact .inr q
  ·have c0:¬m.gid∈s0:=fun q=>c (hm.2 q)
   have e:mc (l,s) m=(l++[m],s++[m.gid]):=by unfold mc;rw[if_neg c]
   rw[e];obtain⟨q1,q2⟩:=rL s0 ms (l++[m]) (s++[m.gid]) hn'.2 (fun x hx=>by
    rw[gP,gu];have hne:x.gid≠m.gid:=fun e=>hn'.1 (by rw[←e];exact gY hx)
    have:=h1 x (bp _ hx);constructor
    ·rintro (q|q)
     ·exact this.1 q
     ·exact(hne q).elim
    ·exact fun q=> .inl (this.2 q)) (fun g hg=>List.mem_append_left _ (h2 g hg))
   refine⟨by rw[q1];simp[c0],fun g=> ?_⟩;rw[q2];simp only[e_,bE,sV,gP,List.not_mem_nil,or_false,or_assoc]
theorem xv(s:List bo×List Int)(m:bo):(mc s m).1.length≤s.1.length+1∧(mc s m).2.length≤s.2.length+1:=by
 unfold mc;split
 ·omega
 ·simp
def FL(c:wQ):List T:=[I c.eE,I c.time,.row 13500 c.w 0 c.L.length,.row 11900 c.z 0 c.gone.length]
def CF(c:wQ)(i:Nat)(j:Nat)(s:List bo×List Int)(y:Nat×Nat×Nat):St:={t:=[(4,.c (.ptr 4 c.u4 0 0)),(5,.c (.ptr 5 c.u6 0 0)),(6,.c (.row 37 y.1 0 s.2.length)),(7,.c (I i)),(8,.c (.row 45 y.2.1 0 s.1.length)),(9,.c (I j))],o:=[(4,⟨c.u4,4,true,true,[ny]⟩),(5,⟨c.u6,4,true,true,[FL c]⟩),(37,⟨y.1,1,true,false,az s.2⟩),(45,⟨y.2.1,4,true,false,s.1.map ah⟩),(11900,⟨c.z,1,false,false,az c.gone⟩),(13500,⟨c.w,7,true,false,(iW c.L i).map af⟩)],n:=y.2.2}
def F8(c:wQ)(i:Nat)(x:bz)(s:List bo×List Int)(y:Nat×Nat×Nat):St:={t:=[(4,.c (.ptr 4 c.u4 0 0)),(5,.c (.ptr 5 c.u6 0 0)),(6,.c (.row 37 y.1 0 s.2.length)),(7,.c (I i)),(8,.c (.row 45 y.2.1 0 s.1.length)),(9,.c (I x.ae.length)),(54,.c (.bool false))],o:=[(4,⟨c.u4,4,true,true,[ny]⟩),(5,⟨c.u6,4,true,true,[FL c]⟩),(37,⟨y.1,1,true,false,az s.2⟩),(45,⟨y.2.1,4,true,false,s.1.map ah⟩),(11900,⟨c.z,1,false,false,az c.gone⟩),(13500,⟨c.w,7,true,false,(iW c.L i).map af⟩)],n:=y.2.2}
theorem DR(kc:bf.k M)(k:Nat)(c:wQ)(i:Nat)(hi:i<c.L.length)(s0:List Int)(hs0:s0.length≤4194304)(hx:c.L[i].ae.length≤1048576)(hk:c.L[i].ae.length<k)(y:Nat×Nat×Nat):
  ∃z,eG (ct (run M) k bI.l1) k (CF c i 0 ([],s0) y)=some (.exit 2,F8 c i c.L[i] (c.L[i].ae.foldl mc ([],s0)) z):=by
 have el:((iW c.L i).map af).length=c.L.length:=by simp[qR]
 have a0:∀hh,((iW c.L i).map af)[i]'hh=af c.L[i]:=by
  intro hh;simp only[fA,wu c.L i hi]
 obtain⟨x,hxx⟩:∃x,x=c.L[i]:=⟨_,rfl⟩
 rw[←hxx] at a0 hx hk ⊢;have er:(x.ae.map ah).length=x.ae.length:=by simp
 obtain⟨g,hr⟩:=iS (f:=ct (run M) k bI.l1) x.ae mc (fun i s=>s.1.length≤i∧s.2.length≤4194304+i) (CF c i) 2 (F8 c i x)
  (fun i h s hs=>by have:=xv s x.ae[i];omega)
  (fun j hj s y hs=>by
   obtain⟨v,v4,n⟩:=y;obtain⟨l,sn⟩:=s;simp only at hs;have e5:=cA (i:=j) (by omega);have e6:l.length+1≤4294967296:=by omega
   have e7:sn.length+1≤4294967296:=by omega
   have e9:(l.map ah).length=l.length:=by simp
   have e10:=aM sn;have h1:=bf.ar kc sn x.ae[j].gid (by omega);have a1:∀hh,(x.ae.map ah)[j]'hh=ah x.ae[j]:=by intro hh;simp
   simp only[aE];unfold mc;by_cases q:x.ae[j].gid∈sn
   ·rw[decide_eq_true q] at h1;simp only[q,if_true,CF,FL];simp only[af,ae,ints,ah,iZ] at a0 a1 h1 ⊢;generalize x.ae.map ah=rx at*;generalize az x.gone=rxg at*;generalize az sn=rs at*;generalize (iW c.L i).map af=rd at*;generalize l.map ah=rl at*;generalize x.ae[j].flags.map aR=rf at*;simp (maxSteps:=9^9) [bI.l1,setAt,hi,hj,h1,e5,e10,er,el,a0,a1,ab]
   ·rw[decide_eq_false q] at h1;simp only[q,if_false,CF,FL,n_,cH,bE,bJ,aF,bP];simp only[af,ae,ints,ah,iZ] at a0 a1 h1 ⊢;generalize x.ae.map ah=rx at*;generalize az x.gone=rxg at*;generalize az sn=rs at*;generalize (iW c.L i).map af=rd at*;generalize l.map ah=rl at*;generalize x.ae[j].flags.map aR=rf at*;simp (maxSteps:=9^9) [bI.l1,setAt,hi,hj,h1,e5,e6,e7,e9,e10,er,el,a0,a1,ab])
  (fun s y hs=>by
   obtain⟨v,v4,n⟩:=y;obtain⟨l,sn⟩:=s;simp only[aE,CF,F8,FL];simp only[af,ae,ints] at a0 ⊢;generalize x.ae.map ah=rx at*;generalize az x.gone=rxg at*;generalize az sn=rs at*;generalize (iW c.L i).map af=rd at*;generalize l.map ah=rl at*;simp (maxSteps:=9^9) [bI.l1,hi,er,el,a0]) ([],s0) ⟨by simp,by simp only;omega⟩
 exact⟨_,gd (hr y) (by omega)⟩
structure KF where
 i:Nat
 seen:List Int
 v:Nat
 n:Nat
def wS(c:wQ)(s:KF):St:={t:=[(4,.c (.ptr 4 c.u4 0 0)),(5,.c (.ptr 5 c.u6 0 0)),(6,.c (.row 37 s.v 0 s.seen.length)),(7,.c (I s.i))],o:=[(4,⟨c.u4,4,true,true,[ny]⟩),(5,⟨c.u6,4,true,true,[FL c]⟩),(37,⟨s.v,1,true,false,az s.seen⟩),(11900,⟨c.z,1,false,false,az c.gone⟩),(13500,⟨c.w,7,true,false,(iW c.L s.i).map af⟩)],n:=s.n}
def DT(c:wQ)(s:KF):St:={t:=[(4,.c (.ptr 4 c.u4 0 0)),(5,.c (.ptr 5 c.u6 0 0)),(6,.c (.row 37 s.v 0 s.seen.length)),(7,.c (I s.i)),(42,.c (.bool false))],o:=[(4,⟨c.u4,4,true,true,[ny]⟩),(5,⟨c.u6,4,true,true,[FL c]⟩),(37,⟨s.v,1,true,false,az s.seen⟩),(11900,⟨c.z,1,false,false,az c.gone⟩),(13500,⟨c.w,7,true,false,(iW c.L s.i).map af⟩)],n:=s.n}
structure Md (c:wQ) (s:KF):Prop where
 i:s.i≤c.L.length
 mem:∀g,g∈s.seen↔g∈jx c.L s.i
 len:s.seen.length≤100*s.i
theorem DS(kc:bf.k M)(k:Nat)(hk:200≤k)(c:wQ)(hL:c.L.length≤1000)(hb:∀b∈c.L,b.ae.length≤100∧(e_ b.ae).Nodup)(s:KF)(hI:Md c s)(hs:s.i<c.L.length):
  ∃s',ct (run M) k bI.l0 (wS c s)=some (.normal,wS c s')∧Md c s'∧s'.i=s.i+1:=by
 obtain⟨i,sn,v,n⟩:=s;obtain⟨_,hm,hl⟩:=hI;simp only at hs hm hl;obtain⟨hx,hnd⟩:=hb _ (ax hs);obtain⟨⟨v5,v4,n4⟩,r1⟩:=DR kc k c i hs sn (by omega) (by omega) (by omega) (v,n+80,n+128);obtain⟨f1,f2⟩:=rL sn c.L[i].ae [] sn hnd (fun _ _=>Iff.rfl) (fun _ h=>h);rw[List.nil_append] at f1;have f3:(c.L[i].ae.foldl mc ([],sn)).1.length≤c.L[i].ae.length∧(c.L[i].ae.foldl mc ([],sn)).2.length≤sn.length+c.L[i].ae.length:=by
  have key:∀ms:List bo,(ms.foldl mc ([],sn)).1.length≤ms.length∧(ms.foldl mc ([],sn)).2.length≤sn.length+ms.length:=fun ms=>
   tj ms mc (fun j s=>s.1.length≤j∧s.2.length≤sn.length+j) (fun j h s hs=>by have:=xv s ms[j];omega) ([],sn) ⟨by simp,by simp⟩
  exact key _
 have hded:mO c.L i c.L[i]={c.L[i] with ae:=(c.L[i].ae.foldl mc ([],sn)).1}:=by
  unfold mO;rw[f1];congr 1;apply List.filter_congr;intro m _;congr 1;exact decide_eq_decide.2 (hm m.gid).symm
 have t3:(iW c.L (i+1)).map af=((iW c.L i).map af).set i (af (mO c.L i c.L[i])):=by rw[wq c.L i hs,gZ]
 rw[hded] at t3;have e5:=cA (i:=i) (by omega);have ez:((0:Nat):Int)=0:=rfl;have el:((iW c.L i).map af).length=c.L.length:=by simp[qR]
 have a1:∀hh,((iW c.L i).map af)[i]'hh=af c.L[i]:=by
  intro hh;simp only[fA,wu c.L i hs]
 have hh:∃n',ct (run M) k bI.l0 (wS c ⟨i,sn,v,n⟩)=some (.normal,wS c ⟨i+1,(c.L[i].ae.foldl mc ([],sn)).2,v5,n'⟩):=by
  simp only[CF,F8,ez,bJ,fE] at r1;simp only[wS,t3];clear t3 hded f1 f2 hm;have efl:((c.L[i].ae.foldl mc ([],sn)).1.map ah).length=(c.L[i].ae.foldl mc ([],sn)).1.length:=by simp
  generalize c.L[i].ae.foldl mc ([],sn)=F at*;obtain⟨fl,fs⟩:=F;simp only[af,ae,ints,FL] at r1 a1 efl ⊢;generalize fl.map ah=rl at*;generalize az fs=rfs at*;generalize az sn=rs at*;generalize (iW c.L i).map af=rd at*;generalize c.L[i]=x at*;generalize c.L.length=N at*;generalize x.ae.map ah=rx at*;generalize az x.gone=rg at*;generalize az c.gone=rcg at*;simp (maxSteps:=9^9) [bI.l0,setAt,hs,r1,e5,el,a1,efl,ab]
 obtain⟨n',hh⟩:=hh;refine⟨_,hh,⟨hs,fun g=> ?_, ?_⟩,rfl⟩
 ·simp only;rw[f2,rM c.L i hs,gP,hm]
 ·simp only;omega
theorem F9(k:Nat)(c:wQ)(s:KF)(hs:¬s.i<c.L.length):
  ∃n',ct (run M) k bI.l0 (wS c s)=some (.exit 0,DT c {s with n:=n'}):=by
 obtain⟨i,sn,v,n⟩:=s;simp only at hs;simp only[wS,DT,FL];generalize (iW c.L i).map af=rd at*;simp (maxSteps:=9^9) [bI.l0,hs]
theorem rV{l:List bz}{g:Int}:jS l g=none↔∀m∈l,m.gid≠g:=by
 unfold jS;rw[List.find?_eq_none];simp
theorem xX{l:List bz}(h:(l.map (·.gid)).Nodup){m:bz}(hm:m∈l):jS l m.gid=some m:=by
 induction l with
 |nil=>simp at hm
 |cons x l ih=>
  rw[bE,List.nodup_cons] at h;unfold jS at ih ⊢;rw[List.find?_cons];rcases List.mem_cons.1 hm with rfl|hm
  ·simp
  ·have:x.gid≠m.gid:=fun e=>h.1 (by rw[e];exact gY hm)
   simp only[this,decide_false];exact ih h.2 hm
theorem te{a b:List bz}{g:Int}(h:g∈fo a∨g∈fo b):(lu a b g).gid=g:=by
 unfold lu;cases h1:jS a g with
 |some x=>
  cases h2:jS b g with
  |some y=>simp only[nD];exact(j1 h1).2
  |none=>exact(j1 h1).2
 |none=>
  cases h2:jS b g with
  |some y=>exact(j1 h2).2
  |none=>
   exfalso;rw[rV] at h1 h2;rcases h with h|h
   ·obtain⟨m,hm,e⟩:=List.mem_map.1 h;exact h1 m hm e
   ·obtain⟨m,hm,e⟩:=List.mem_map.1 h;exact h2 m hm e
theorem Ff{a b:List bz}(ha:(fo a).Nodup)(hb:(fo b).Nodup){m:bz}:m∈nG a b↔(m.gid∈fo a∨m.gid∈fo b)∧m=lu a b m.gid:=by
 simp only[nG,jQ,gP,nk,fi];constructor
 ·rintro (⟨x,hx,rfl⟩|⟨hm,hn⟩)
  ·have h1:=xX ha hx;have hg:x.gid∈fo a:=gY hx;cases h2:jS b x.gid with
   |some y=>
    simp only[nD];refine⟨.inl hg, ?_⟩;simp only[lu,h1,h2]
   |none=>
    simp only;refine⟨.inl hg, ?_⟩;simp only[lu,h1,h2]
  ·have h1:=xX hb hm;simp only[cp] at hn;refine⟨.inr (gY hm), ?_⟩;simp only[lu,h1,hn]
 ·rintro ⟨h,e⟩;cases h1:jS a m.gid with
  |some x=>
   left;obtain⟨k1,k2⟩:=j1 h1;refine⟨x,k1, ?_⟩;rw[e,k2];simp only[lu,h1];cases h2:jS b m.gid<;>rfl
  |none=>
   right;cases h2:jS b m.gid with
   |none=>
    exfalso;rw[rV] at h1 h2;rcases h with h|h
    ·obtain⟨m',hm,e⟩:=List.mem_map.1 h;exact h1 m' hm e
    ·obtain⟨m',hm,e⟩:=List.mem_map.1 h;exact h2 m' hm e
   |some y=>
    refine⟨?_,by simp⟩;have:m=y:=by rw[e];simp only[lu,h1,h2]
    rw[this];exact(j1 h2).1
theorem Bt{a b:List bz}(ha:(fo a).Nodup)(hb:(fo b).Nodup):(fo (nG a b)).Nodup:=by
 have e1:fo (jQ a b)=fo a:=by
  unfold fo jQ;rw[List.map_map];apply List.map_congr_left;intro m _;simp only[Function.comp];split
  ·exact nD _ _
  ·rfl
 unfold nG;rw[fo,cH];change (fo _++fo _).Nodup;rw[e1,List.nodup_append];refine⟨ha, ?_, ?_⟩
 ·exact hb.sublist (List.Sublist.map _ List.filter_sublist)
 ·intro x hx y hy e;subst e;obtain⟨m,hm,rfl⟩:=List.mem_map.1 hy;rw[fi] at hm;simp only[cp,rV] at hm;obtain⟨m',hm',e⟩:=List.mem_map.1 hx;exact hm.2 m' hm' e
theorem Gg{a b:List bz}(G:List Int)(ha:(fo a).Nodup)(hb:(fo b).Nodup):
  eT (·.gid) ((nG a b).filter fun m=> !decide (m.gid∈G))=((aQ (fo a) (fo b)).filter fun g=> !decide (g∈G)).map (lu a b):=by
 refine tI (k:=fun m:bz=>m.gid) ?_ ?_ fun m=> ?_
 ·refine oS (nu _) ?_;have hp:=(nA (k:=fun m:bz=>m.gid) ((nG a b).filter fun m=> !decide (m.gid∈G))).map (fun m:bz=>m.gid);rw[hp.nodup_iff];exact(Bt ha hb).sublist (List.Sublist.map _ List.filter_sublist)
 ·rw[Ag,List.pairwise_map];have h:=(mK (fo a) (fo b)).filter (fun g=> !decide (g∈G));refine List.Pairwise.imp_of_mem ?_ h;intro x y hx hy hxy;rw[fi,iq] at hx hy;rw[te hx.1,te hy.1];exact hxy
 ·rw[pC,fi,Ff ha hb,nk];constructor
  ·rintro ⟨⟨h1,h2⟩,h3⟩;exact⟨m.gid,List.mem_filter.2 ⟨(iq _ _ _).2 h1,h3⟩,h2.symm⟩
  ·rintro ⟨g,hg,rfl⟩;rw[fi,iq] at hg;have:=te hg.1;rw[this];exact⟨⟨hg.1,rfl⟩,hg.2⟩
theorem yF{a b:aT}(ha:lB a)(hb:lB b)(G:List Int):jY a.boxes b.boxes G=kH a.boxes b.boxes G:=by
 have nd:∀{s:aT},lB s→(fo s.boxes).Nodup:=fun {s} h=>List.pairwise_map.2 (h.Ih.imp fun q=>by omega)
 unfold jY kH;rw[Gg G (nd ha) (nd hb)]
theorem y4(kc:bf.k M)(k:Nat)(hk:1200≤k)(c:wQ)(hL:c.L.length≤1000)(hb:∀b∈c.L,b.ae.length≤100∧(e_ b.ae).Nodup)(v n:Nat):
  ∃s',eG (ct (run M) k bI.l0) k (wS c ⟨0,[],v,n⟩)=some (.exit 0,DT c s')∧s'.i=c.L.length:=by
 obtain⟨r,hr,s',rfl,hi⟩:=kq (f:=ct (run M) k bI.l0) (wS c) (Md c) (fun s=>c.L.length-s.i) (fun r=>∃s',r=(.exit 0,DT c s')∧s'.i=c.L.length)
  (fun s hs=>by
   by_cases q:s.i<c.L.length
   ·left;obtain⟨s',hh,hI,hi⟩:=DS kc k (by omega) c hL hb s hs q;exact⟨_,hh,hI,by omega⟩
   ·right;obtain⟨n',hh⟩:=F9 (M:=M) k c s q;have:=hs.i;exact⟨_,hh,by simp,_,rfl,by simp only;omega⟩) k ⟨0,[],v,n⟩ ⟨by simp,fun g=>by simp[jx],by simp⟩ (by simp only;omega)
 exact⟨s',hr,hi⟩
theorem bI.ar(h:bI.k M)(a b:aT)(ha:lB a)(hb:lB b):
  run M 446 [.a (ai a),.a (ai b)] []=some (.a [I a.eE,I (Max.max a.time b.time),.sl true 7 ((dk a b).boxes.map af),.sl false 1 (az (dk a b).gone)],[]):=by
 obtain⟨h0,kg,kin,kb⟩:=h;have hga:=ha.gone;have hgb:=hb.gone;have hgj:=jD a.gone b.gone;have h1:=aU.ar kg a.gone b.gone (by omega) (by omega);have h2:=aY.ar kb a.boxes b.boxes (aQ a.gone b.gone) ha.boxes hb.boxes (by omega);rw[←yF ha hb] at h2;have hLl:=ot ha.boxes hb.boxes (aQ a.gone b.gone);have hLs:=kR ha.boxes hb.boxes (aQ a.gone b.gone);simp only[dk];have eg:=aM (aQ a.gone b.gone);generalize aQ a.gone b.gone=G at*;generalize jY a.boxes b.boxes G=L at*;have hLb:∀x∈L,x.ae.length≤100∧(e_ x.ae).Nodup:=fun x hx=>⟨by have:=(hLs x hx).m;omega,(hLs x hx).d⟩
 obtain⟨⟨i1,sn1,v1,n1⟩,r1,hi1⟩:=y4 kin 1200 (by omega) ⟨2000032,2000208,2000480,2000176,a.eE,b.time,G,L⟩ (by simp only;omega) hLb 2000528 2000576;obtain⟨⟨i2,sn2,v2,n2⟩,r2,hi2⟩:=y4 kin 1200 (by omega) ⟨2000032,2000208,2000416,2000176,a.eE,a.time,G,L⟩ (by simp only;omega) hLb 2000464 2000512;simp only at hi1 hi2;subst hi1;subst hi2;refine aB (b:=bI.m) h0 ⟨1200, ?_⟩;have el:(L.map af).length=L.length:=by simp
 have el2:((uG L).map af).length=L.length:=by simp[uG]
 have ez:((0:Nat):Int)=0:=rfl;have em:=yy a.time b.time;simp only[wS,DT,FL,wo,xT,ez,mL,fE] at r1 r2;generalize hmx:Max.max a.time b.time=mx at*;clear hmx hLs hLb;generalize (uG L).map af=RD at*;generalize L.map af=RL at*;generalize L.length=N at*;simp only[ai,boxes,ints] at*;generalize az G=rg at*;generalize G.length=ng at*;generalize a.boxes.map af=ra at*;generalize b.boxes.map af=rb at*;generalize az a.gone=ga at*;generalize az b.gone=gb at*;by_cases c:a.time<b.time
 ·rw[if_pos c] at em;subst em;simp (maxSteps:=9^9) [bl,bI.m,bI.b,aa,setAt,h1,h2,r1,c,el,el2,eg,ab]
 ·rw[if_neg c] at em;subst em;simp (maxSteps:=9^9) [bl,bI.m,bI.b,aa,setAt,h1,h2,r2,c,el,el2,eg,ab]
def j8(a b:aT):Bool:=bc a&&bc b&&bc (dk a b)
theorem ry{a b:aT}(ha:lB a)(hb:lB b):g_ (dk a b):=by
 have h1:=jD a.gone b.gone;have h2:=ha.gone;have h3:=hb.gone;have h4:=ot ha.boxes hb.boxes (aQ a.gone b.gone);refine⟨by simp only[dk,uG,List.length_mapIdx];omega,by simp only[dk];omega,E4 _ (kR ha.boxes hb.boxes (aQ a.gone b.gone)), ?_⟩;have hs:=E4 (jY a.boxes b.boxes (aQ a.gone b.gone)) (kR ha.boxes hb.boxes (aQ a.gone b.gone));have key:∀l:List bz,(∀x∈l,x.ae.length≤20)→(l.flatMap b5).length≤20*l.length:=by
  intro l
  induction l with
  |nil=>intro _;simp
  |cons x l ih=>
   intro h;have h1:=ih fun y hy=>h y (bp _ hy)
   have h2:=h x (bj ..);simp only[cC,aF,b5,fP,b7] at h1 ⊢;omega
 have hk:=key (dk a b).boxes fun x hx=>by
  obtain⟨i,hi,rfl⟩:=bV hx;simp only[dk,uG,List.length_mapIdx] at hi;simp only[dk,uG,List.getElem_mapIdx,mO];have S:=kR ha.boxes hb.boxes (aQ a.gone b.gone) _ (ax hi);exact Nat.le_trans (bQ _ _) S.m
 have hl:(dk a b).boxes.length≤10:=by simp only[dk,uG,List.length_mapIdx];exact h4
 omega
theorem eU.ar(h:eU.k M)(a b:aT)(ha:g_ a)(hb:g_ b):run M 433 [.a (ai a),.a (ai b)] []=some (.c (.bool (j8 a b)),[]):=by
 obtain⟨h0,ks,kj⟩:=h;have h1:=aJ.ar ks a ha;have h2:=aJ.ar ks b hb;refine aB (b:=eU.m) h0 ⟨0, ?_⟩;unfold j8;cases c1:bc a with
 |false=>
  rw[c1] at h1;simp only[ai,boxes,ints] at*;generalize a.boxes.map af=ra at*;generalize b.boxes.map af=rb at*;generalize az a.gone=ga at*;generalize az b.gone=gb at*;simp (maxSteps:=9^9) [bl,eU.m,eU.b,aa,h1,ab]
 |true=>
  rw[c1] at h1;cases c2:bc b with
  |false=>
   rw[c2] at h2;simp only[ai,boxes,ints] at*;generalize a.boxes.map af=ra at*;generalize b.boxes.map af=rb at*;generalize az a.gone=ga at*;generalize az b.gone=gb at*;simp (maxSteps:=9^9) [bl,eU.m,eU.b,aa,h1,h2,ab]
  |true=>
   rw[c2] at h2;have h3:=bC.ar kj a b (eh c1) (eh c2);have h4:=aJ.ar ks _ (ry (eh c1) (eh c2));have e1:(dk a b).eE=a.eE:=rfl;have e2:(dk a b).time=Max.max a.time b.time:=rfl;simp only[ai,boxes,ints,e1,e2] at*;generalize Max.max a.time b.time=mx at*;generalize bc (dk a b)=w at*;generalize (dk a b).boxes.map af=rj at*;generalize az (dk a b).gone=gj at*;generalize a.boxes.map af=ra at*;generalize b.boxes.map af=rb at*;generalize az a.gone=ga at*;generalize az b.gone=gb at*;simp (maxSteps:=9^9) [bl,eU.m,eU.b,aa,h1,h2,h3,h4,ab]
theorem eS.ar(h:eS.k M)(a b:aT)(ha:g_ a)(hb:g_ b):run M 432 [.a (ai a),.a (ai b)] []=some (.c (.bool (j8 a b)),[]):=by
 obtain⟨h0,ks,kj⟩:=h;have h1:=aI.ar ks a ha;have h2:=aI.ar ks b hb;refine aB (b:=eS.m) h0 ⟨0, ?_⟩;unfold j8;cases c1:bc a with
 |false=>
  rw[c1] at h1;simp only[ai,boxes,ints] at*;generalize a.boxes.map af=ra at*;generalize b.boxes.map af=rb at*;generalize az a.gone=ga at*;generalize az b.gone=gb at*;simp (maxSteps:=9^9) [bl,eS.m,eS.b,aa,h1,ab]
 |true=>
  rw[c1] at h1;cases c2:bc b with
  |false=>
   rw[c2] at h2;simp only[ai,boxes,ints] at*;generalize a.boxes.map af=ra at*;generalize b.boxes.map af=rb at*;generalize az a.gone=ga at*;generalize az b.gone=gb at*;simp (maxSteps:=9^9) [bl,eS.m,eS.b,aa,h1,h2,ab]
  |true=>
   rw[c2] at h2;have h3:=bI.ar kj a b (eh c1) (eh c2);have h4:=aI.ar ks _ (ry (eh c1) (eh c2));have e1:(dk a b).eE=a.eE:=rfl;have e2:(dk a b).time=Max.max a.time b.time:=rfl;simp only[ai,boxes,ints,e1,e2] at*;generalize Max.max a.time b.time=mx at*;generalize bc (dk a b)=w at*;generalize (dk a b).boxes.map af=rj at*;generalize az (dk a b).gone=gj at*;generalize a.boxes.map af=ra at*;generalize b.boxes.map af=rb at*;generalize az a.gone=ga at*;generalize az b.gone=gb at*;simp (maxSteps:=9^9) [bl,eS.m,eS.b,aa,h1,h2,h3,h4,ab]
end Mx
namespace Mx
open Go
def mb(l:List bz)(g:Int):List Int:=match jS l g with|some x=>e_ x.ae|none=>[]
def gb(l:List bz)(g:Int):List Int:=match jS l g with|some x=>x.gone|none=>[]
def raw(a b:List bz)(G:List Int):List bz:=((aQ (fo a) (fo b)).filter fun g=> !decide (g∈G)).map (lu a b)
theorem tU:∀(l acc:List bz) (i:Nat) (h:i<l.length),∃nm,(l.foldl nS acc)[acc.length+i]? =some {l[i] with name:=nm}
 |x::l,acc,i,h=>by
  rw[eH];have hs:nS acc x=acc++[oO acc x]:=rfl;cases i with
  |zero=>
   have hp:∀(l acc:List bz) (k:Nat),k<acc.length→(l.foldl nS acc)[k]? =acc[k]? :=by
    intro l
    induction l with
    |nil=>intro acc k _;rfl
    |cons y l ih=>
     intro acc k hk;rw[eH,ih (nS acc y) k (by rw[pG];simp;omega),pG,List.getElem?_append_left hk]
   rw[hp l _ _ (by rw[hs];simp),hs];refine⟨(oO acc x).name, ?_⟩;simp only[Nat.add_zero,List.getElem?_append_right (Nat.le_refl _),Nat.sub_self,List.getElem?_cons_zero,List.getElem_cons_zero];unfold oO;split<;>rfl
  |succ i=>
   have:=tU l (nS acc x) i (by simpa using h);rw[hs] at this;simpa [hs,Nat.add_assoc,Nat.add_comm 1] using this
theorem IJ(l:List bz)(i:Nat)(h:i<l.length):∃nm,(po l)[i]'(by rw[j_];exact h)={l[i] with name:=nm}:=by
 obtain⟨nm,e⟩:=tU l [] i h;refine⟨nm, ?_⟩;simp only[fE,Nat.zero_add] at e;have e2:(po l)[i]? =some {l[i] with name:=nm}:=e
 rw[cB (by rw[j_];exact h)] at e2;exact Option.some.inj e2
theorem xA{L:List bz}{i:Nat}{m:Int}:m∈jx L i↔∃k,∃h:k<L.length,k<i∧m∈e_ L[k].ae:=by
 unfold jx;rw[iM];constructor
 ·rintro ⟨b,hb,hm⟩;obtain⟨k,hk,rfl⟩:=bV hb;simp only[hZ] at hk;rw[List.getElem_take] at hm;exact⟨k,by omega,by omega,hm⟩
 ·rintro ⟨k,hk,hki,hm⟩;refine⟨L[k], ?_,hm⟩;have:k<(L.take i).length:=by simp;omega
  have e:(L.take i)[k]=L[k]:=by rw[List.getElem_take]
  rw[←e];exact ax this
theorem E5{L:List bz}{i:Nat}(h:i<L.length){m:Int}:m∈e_ ((uG L)[i]'(by simpa [uG] using h)).ae↔m∈e_ L[i].ae∧¬m∈jx L i:=by
 simp only[uG,List.getElem_mapIdx,mO,e_,nk,fi,Bool.not_eq_true',decide_eq_false_iff_not];constructor
 ·rintro ⟨y,⟨h1,h2⟩,rfl⟩;exact⟨⟨y,h1,rfl⟩,h2⟩
 ·rintro ⟨⟨y,h1,rfl⟩,h2⟩;exact⟨y,⟨h1,h2⟩,rfl⟩
structure Mh (a b:List bz) (G:List Int) (L:List bz):Prop where
 len:L.length=(raw a b G).length
 at_:∀i (h:i<L.length),∃hr:i<(raw a b G).length,L[i].gid=(raw a b G)[i].gid∧L[i].gone=(raw a b G)[i].gone∧
  ∀m,m∈e_ L[i].ae↔m∈e_ (raw a b G)[i].ae∧¬m∈jx (raw a b G) i
 nd:(∀x∈raw a b G,(e_ x.ae).Nodup)→∀i (h:i<L.length),(e_ L[i].ae).Nodup
theorem Mm(a b:List bz)(G:List Int):Mh a b G (uG (kH a b G)):=by
 have hl:(uG (kH a b G)).length=(raw a b G).length:=by simp only[uG,List.length_mapIdx];exact j_ _
 have hS:∀i (h:i<(raw a b G).length),∃nm,(kH a b G)[i]'(by rw[show (kH a b G).length=_ from j_ _];exact h)={(raw a b G)[i] with name:=nm}:=fun i h=>IJ (raw a b G) i h
 have hlS:(kH a b G).length=(raw a b G).length:=j_ _;have hseen:∀i m,m∈jx (kH a b G) i↔m∈jx (raw a b G) i:=by
  intro i m;rw[xA,xA];constructor
  ·rintro ⟨k,h1,h2,h3⟩;obtain⟨nm,e⟩:=hS k (by omega);rw[e] at h3;exact⟨k,by omega,h2,h3⟩
  ·rintro ⟨k,h1,h2,h3⟩;obtain⟨nm,e⟩:=hS k h1;exact⟨k,by omega,h2,by rw[e];exact h3⟩
 refine⟨hl,fun i h=> ?_,fun hn i h=> ?_⟩
 ·have hr:i<(raw a b G).length:=by omega
  obtain⟨nm,e⟩:=hS i hr;refine⟨hr, ?_, ?_,fun m=> ?_⟩
  ·simp only[uG,List.getElem_mapIdx,mO,e]
  ·simp only[uG,List.getElem_mapIdx,mO,e]
  ·rw[E5 (by omega),hseen,e]
 ·have hr:i<(raw a b G).length:=by omega
  obtain⟨nm,e⟩:=hS i hr;have:=hn _ (ax hr);simp only[uG,List.getElem_mapIdx,mO,e,e_] at this ⊢;exact this.sublist (List.Sublist.map _ List.filter_sublist)
end Mx
namespace Mx
open Go
variable {M:Nat→Option Body}
structure Ik (b:bz):Prop where
 m:b.ae.length≤1048576
 g:b.gone.length≤1048576
 f:∀m∈b.ae,m.flags.length≤1048576
structure sQ (s:aT):Prop where
 b:s.boxes.length≤1048576
 g:s.gone.length≤1048576
 box:∀b∈s.boxes,Ik b
def IE(a b:bz)(i:Nat)(x:Nat×Nat×Nat):St:={t:=[(2,.c (.ptr 2 x.1 0 0)),(3,.c (.ptr 3 x.2.1 0 0)),(5,.c (I i))],o:=[(2,⟨x.1,7,true,true,[af a]⟩),(3,⟨x.2.1,7,true,true,[af b]⟩)],n:=x.2.2}
def KQ(a b:bz)(x:Nat×Nat×Nat):St:={t:=[(2,.c (.ptr 2 x.1 0 0)),(3,.c (.ptr 3 x.2.1 0 0)),(5,.c (I a.ae.length)),(55,.c (.bool false))],o:=[(2,⟨x.1,7,true,true,[af a]⟩),(3,⟨x.2.1,7,true,true,[af b]⟩)],n:=x.2.2}
def CK(a b:bz)(i:Nat)(x:Nat×Nat×Nat):St:={t:=[(2,.c (.ptr 2 x.1 0 0)),(3,.c (.ptr 3 x.2.1 0 0)),(6,.c (I i))],o:=[(2,⟨x.1,7,true,true,[af a]⟩),(3,⟨x.2.1,7,true,true,[af b]⟩)],n:=x.2.2}
def IF(a b:bz)(x:Nat×Nat×Nat):St:={t:=[(2,.c (.ptr 2 x.1 0 0)),(3,.c (.ptr 3 x.2.1 0 0)),(6,.c (I a.gone.length)),(74,.c (.bool false))],o:=[(2,⟨x.1,7,true,true,[af a]⟩),(3,⟨x.2.1,7,true,true,[af b]⟩)],n:=x.2.2}
theorem oo{f:St→Option (Out×St)}:∀{n m:Nat} {s:St} {r:Out×St},eG f n s=some r→n≤m→eG f m s=some r
 |0,m,s,r,h,_=>by simp[eG] at h
 |n+1,0,s,r,h,hm=>by omega
 |n+1,m+1,s,r,h,hm=>by
  simp only[eG] at h ⊢;split at h
  ·exact oo h (by omega)
  ·exact h
theorem bK.ar(h:bK.k M)(a b:bz)(ha:Ik a):run M 116 [.a (af a),.a (af b)] []=some (.c (.bool (decide (a=b))),[]):=by
 obtain⟨h0,k1⟩:=h;refine aB (b:=bK.m) h0 ⟨a.ae.length+a.gone.length+1, ?_⟩;by_cases c1:a.gid=b.gid;rotate_left
 ·have hne:¬a=b:=fun q=>c1 (by rw[q])
  simp[bl,bK.m,bK.b,aa,c1,hne]
 by_cases c2:a.name=b.name;rotate_left
 ·have hne:¬a=b:=fun q=>c2 (by rw[q])
  simp[bl,bK.m,bK.b,aa,c1,c2,hne]
 by_cases c3:a.time=b.time;rotate_left
 ·have hne:¬a=b:=fun q=>c3 (by rw[q])
  simp[bl,bK.m,bK.b,aa,c1,c2,c3,hne,r_,Al]
 by_cases c4:a.eE=b.eE;rotate_left
 ·have hne:¬a=b:=fun q=>c4 (by rw[q])
  simp[bl,bK.m,bK.b,aa,c1,c2,c3,c4,hne,r_,Al]
 by_cases c5:a.next=b.next;rotate_left
 ·have hne:¬a=b:=fun q=>c5 (by rw[q])
  simp[bl,bK.m,bK.b,aa,c1,c2,c3,c4,c5,hne,r_,Al]
 by_cases c6:a.ae.length=b.ae.length;rotate_left
 ·have hne:¬a=b:=fun q=>c6 (by rw[q])
  have c6':¬(a.ae.length:Int)=b.ae.length:=by omega
  simp[bl,bK.m,bK.b,aa,c1,c2,c3,c4,c5,c6',hne,r_,Al]
 by_cases c7:a.gone.length=b.gone.length;rotate_left
 ·have hne:¬a=b:=fun q=>c7 (by rw[q])
  have c7':¬(a.gone.length:Int)=b.gone.length:=by omega
  simp[bl,bK.m,bK.b,aa,c1,c2,c3,c4,c5,c6,c7',hne,r_,Al]
 obtain⟨K,hK⟩:∃K,K=a.ae.length+a.gone.length+1:=⟨_,rfl⟩
 rw[←hK];have hml:=ha.m;have hgl:=ha.g;have hfl:=ha.f;obtain⟨g,hr⟩:=sG a.ae b.ae c6 (f:=ct (run M) K bK.l0) (IE a b) 4 0 (KQ a b)
  (fun i hi hi' x c=>by
   obtain⟨v,w,x⟩:=x;have e5:=cA (i:=i) (by omega);have hm:=ch.ar k1 a.ae[i] b.ae[i] (hfl _ (ax hi));rw[decide_eq_true c] at hm;simp only[ah] at hm;simp only[aE];simp[IE,bK.l0,hi,hi',e5,ah,hm])
  (fun i hi hi' x c=>by
   obtain⟨v,w,x⟩:=x;have hm:=ch.ar k1 a.ae[i] b.ae[i] (hfl _ (ax hi));rw[decide_eq_false c] at hm;simp only[ah] at hm;simp[IE,bK.l0,hi,hi',ah,hm])
  (fun x=>by
   obtain⟨v,w,x⟩:=x;simp only[aE];simp[IE,KQ,bK.l0])
 have hr':=fun x=>oo (hr x) (show a.ae.length+1≤K by omega)
 by_cases c8:a.ae=b.ae;rotate_left
 ·have hne:¬a=b:=fun q=>c8 (by rw[q])
  simp only[c8,if_false] at hr';simp[IE,af,c1,c2,c3,c4,c5] at hr';simp[bl,bK.m,bK.b,aa,af,c1,c2,c3,c4,c5,c6,c7,hne,r_,Al,hr']
 obtain⟨g2,hr2⟩:=sG a.gone b.gone c7 (f:=ct (run M) K bK.l1) (CK a b) 4 2 (IF a b)
  (fun i hi hi' x c=>by
   obtain⟨v,w,x⟩:=x;have e5:=cA (i:=i) (by omega);simp only[aE];simp[CK,bK.l1,hi,hi',e5,c])
  (fun i hi hi' x c=>by
   obtain⟨v,w,x⟩:=x;simp[CK,bK.l1,hi,hi',c])
  (fun x=>by
   obtain⟨v,w,x⟩:=x;simp only[aE];simp[CK,IF,bK.l1])
 have hr2':=fun x=>oo (hr2 x) (show a.gone.length+1≤K by omega)
 simp only[c8,if_true] at hr';by_cases c9:a.gone=b.gone
 ·have he:a=b:=Hy c1 c2 c3 c4 c5 c8 c9;subst he;simp only[if_true] at hr2';simp[IE,KQ,af] at hr';simp[CK,IF,af] at hr2';simp[bl,bK.m,bK.b,aa,af,r_,Al,hr',hr2']
 ·have hne:¬a=b:=fun q=>c9 (by rw[q])
  simp only[c9,if_false] at hr2';simp[IE,KQ,af,c1,c2,c3,c4,c5,c8] at hr';simp[CK,af,c1,c2,c3,c4,c5,c8] at hr2';simp[bl,bK.m,bK.b,aa,af,c1,c2,c3,c4,c5,c7,c8,hne,r_,Al,hr',hr2']
def alike(a b:aT):Bool:=decide (a.boxes=b.boxes)&&decide (a.gone=b.gone)
def IG(a b:aT)(i:Nat)(x:Nat×Nat×Nat):St:={t:=[(2,.c (.ptr 2 x.1 0 0)),(3,.c (.ptr 3 x.2.1 0 0)),(5,.c (I i))],o:=[(2,⟨x.1,4,true,true,[ai a]⟩),(3,⟨x.2.1,4,true,true,[ai b]⟩)],n:=x.2.2}
def KR(a b:aT)(x:Nat×Nat×Nat):St:={t:=[(2,.c (.ptr 2 x.1 0 0)),(3,.c (.ptr 3 x.2.1 0 0)),(5,.c (I a.boxes.length)),(27,.c (.bool false))],o:=[(2,⟨x.1,4,true,true,[ai a]⟩),(3,⟨x.2.1,4,true,true,[ai b]⟩)],n:=x.2.2}
def CL(a b:aT)(i:Nat)(x:Nat×Nat×Nat):St:={t:=[(2,.c (.ptr 2 x.1 0 0)),(3,.c (.ptr 3 x.2.1 0 0)),(6,.c (I i))],o:=[(2,⟨x.1,4,true,true,[ai a]⟩),(3,⟨x.2.1,4,true,true,[ai b]⟩)],n:=x.2.2}
def IH(a b:aT)(x:Nat×Nat×Nat):St:={t:=[(2,.c (.ptr 2 x.1 0 0)),(3,.c (.ptr 3 x.2.1 0 0)),(6,.c (I a.gone.length)),(46,.c (.bool false))],o:=[(2,⟨x.1,4,true,true,[ai a]⟩),(3,⟨x.2.1,4,true,true,[ai b]⟩)],n:=x.2.2}
theorem cU.ar(h:cU.k M)(a b:aT)(ha:sQ a):run M 31 [.a (ai a),.a (ai b)] []=some (.c (.bool (alike a b)),[]):=by
 obtain⟨h0,k1⟩:=h;refine aB (b:=cU.m) h0 ⟨a.boxes.length+a.gone.length+1, ?_⟩;unfold alike;by_cases c6:a.boxes.length=b.boxes.length;rotate_left
 ·have hne:¬a.boxes=b.boxes:=fun q=>c6 (by rw[q])
  have c6':¬(a.boxes.length:Int)=b.boxes.length:=by omega
  simp[bl,cU.m,cU.b,aa,c6',hne]
 by_cases c7:a.gone.length=b.gone.length;rotate_left
 ·have hne:¬a.gone=b.gone:=fun q=>c7 (by rw[q])
  have c7':¬(a.gone.length:Int)=b.gone.length:=by omega
  simp[bl,cU.m,cU.b,aa,c6,c7',hne]
 obtain⟨K,hK⟩:∃K,K=a.boxes.length+a.gone.length+1:=⟨_,rfl⟩
 rw[←hK];have hbl:=ha.b;have hgl:=ha.g;obtain⟨g,hr⟩:=sG a.boxes b.boxes c6 (f:=ct (run M) K cU.l0) (IG a b) 4 0 (KR a b)
  (fun i hi hi' x c=>by
   obtain⟨v,w,x⟩:=x;have e5:=cA (i:=i) (by omega);have hm:=bK.ar k1 a.boxes[i] b.boxes[i] (ha.box _ (ax hi));rw[decide_eq_true c] at hm;simp only[af] at hm;simp only[aE];simp[IG,cU.l0,hi,hi',e5,af,hm])
  (fun i hi hi' x c=>by
   obtain⟨v,w,x⟩:=x;have hm:=bK.ar k1 a.boxes[i] b.boxes[i] (ha.box _ (ax hi));rw[decide_eq_false c] at hm;simp only[af] at hm;simp[IG,cU.l0,hi,hi',af,hm])
  (fun x=>by
   obtain⟨v,w,x⟩:=x;simp only[aE];simp[IG,KR,cU.l0])
 have hr':=fun x=>oo (hr x) (show a.boxes.length+1≤K by omega)
 by_cases c8:a.boxes=b.boxes;rotate_left
 ·simp only[c8,if_false] at hr';simp[IG,ai] at hr';simp[bl,cU.m,cU.b,aa,ai,c6,c7,c8,hr']
 obtain⟨g2,hr2⟩:=sG a.gone b.gone c7 (f:=ct (run M) K cU.l1) (CL a b) 4 2 (IH a b)
  (fun i hi hi' x c=>by
   obtain⟨v,w,x⟩:=x;have e5:=cA (i:=i) (by omega);simp only[aE];simp[CL,cU.l1,hi,hi',e5,c])
  (fun i hi hi' x c=>by
   obtain⟨v,w,x⟩:=x;simp[CL,cU.l1,hi,hi',c])
  (fun x=>by
   obtain⟨v,w,x⟩:=x;simp only[aE];simp[CL,IH,cU.l1])
 have hr2':=fun x=>oo (hr2 x) (show a.gone.length+1≤K by omega)
 simp only[c8,if_true] at hr';by_cases c9:a.gone=b.gone
 ·simp only[c9,if_true] at hr2';simp[IG,KR,ai,c8,c9] at hr';simp[CL,IH,ai,c8,c9] at hr2';simp[bl,cU.m,cU.b,aa,ai,c8,c9,hr',hr2']
 ·simp only[c9,if_false] at hr2';simp[IG,KR,ai,c8] at hr';simp[CL,ai,c8] at hr2';simp[bl,cU.m,cU.b,aa,ai,c7,c8,c9,hr',hr2']
theorem iu.ar(h:iu.k M)(b:bz)(g:Int):run M 199 [.a (af b),.c (.vp [I g] 0)] []=some (.c (.bool (decide (b.gid=g))),[]):=by
 refine aB (b:=iu.m) h ⟨0, ?_⟩;simp (maxSteps:=9^9) [bl,iu.m,iu.b,aa,af]
theorem gf.ar(h:gf.k M)(s:aT)(g:Int)(hl:s.boxes.length≤1048576):run M 95 [.a (ai s),.c (I g)] []=some (.c (I (dy (kU s.boxes g))),[]):=by
 have h1:=ay.gen h.2.2 (fun b=>iu.ar h.2.1 b g) s.boxes hl;refine aB (b:=gf.m) h.1 ⟨0, ?_⟩;unfold kU;simp only[ai,boxes,ints] at h1 ⊢;generalize s.boxes.map af=r at*;generalize az s.gone=rg at*;simp (maxSteps:=9^9) [bl,gf.m,gf.b,aa,h1]
end Mx
namespace Mx
open Go
def BY(kt ko:List Nat)(n:Nat):Option (List (Nat×V)×List (Nat×Ob))→Option (Out×St)
 |none=>none
 |some r=>some (.normal,{t:=keep kt r.1,o:=keep ko r.2,n:=n})
theorem AZ(kt ko:List Nat)(n:Nat)(t:List (Nat×V))(o:List (Nat×Ob)):BY kt ko n (some (t,o))=some (.normal,{t:=keep kt t,o:=keep ko o,n:=n}):=rfl
theorem A0(kt ko:List Nat)(n:Nat):BY kt ko n none=none:=rfl
theorem Hn(cf:cO)(k:Nat)(s:St)(ops:List mX)(kt ko:List Nat):ct cf k (.ak ops kt ko) s=BY kt ko (s.n+16*ops.length) (steps cf s.n 0 ops s.t s.o):=by
 simp only[ct];cases steps cf s.n 0 ops s.t s.o<;>rfl
theorem ET(cf:cO)(k:Nat)(s:St)(ops:List mX)(anc:List (List Nat))(kt ko:List Nat):ct cf k (.gm ops anc kt ko) s=BY kt ko (s.n+16*ops.length) (jr cf s.n 0 ops anc s.t s.o []):=by
 simp only[ct];cases jr cf s.n 0 ops anc s.t s.o []<;>rfl
theorem ER(cf:cO)(k:Nat)(s:St):ct cf k .skip s=some (.normal,s):=rfl
theorem Hk(cf:cO)(k:Nat)(s:St)(a b:C):ct cf k (.seq a b) s=match ct cf k a s with|some (.normal,s')=>ct cf k b s'|r=>r:=rfl
theorem EX(cf:cO)(k:Nat)(s:St)(c:Nat)(a b:C):ct cf k (.cond (.t c) a b) s=match o4 s.t (.t c) with|some true=>ct cf k a s|some false=>ct cf k b s|none=>none:=rfl
theorem C4(cf:cO)(k:Nat)(s:St)(id:Nat)(a:C):ct cf k (.block id a) s=match ct cf k a s with|some (.exit id',s')=>some (if id'=id then(.normal,s') else(.exit id',s'))|r=>r:=rfl
theorem EV(cf:cO)(k:Nat)(s:St)(a:C):ct cf k (.loop a) s=eG (ct cf k a) k s:=rfl
theorem EW(cf:cO)(k:Nat)(s:St)(id:Nat):ct cf k (.exit id) s=some (.exit id,s):=rfl
theorem Hm(cf:cO)(k:Nat)(s:St):ct cf k .ret s=some (.ret,s):=rfl
theorem ES(cf:cO)(k:Nat)(s:St)(ids:List Nat)(a:C):ct cf k (.shut ids a) s=ct cf k a {s with o:=s6 ids s.o}:=rfl
theorem IX(n i:Nat):(lr n).contains i=decide (i<n):=by
 simp only[lr,List.contains_eq_mem,List.mem_range]
theorem GH(n i:Nat)(l:List Nat):(lr n++l).contains i=(decide (i<n)||l.contains i):=by
 simp only[lr,List.contains_eq_mem,gP,List.mem_range,Bool.decide_or]
def Kr:Option Ob→List Nat
 |some b=>if b.bx then b.rows.flatMap fun r=>r.flatMap o_ else []
 |none=>[]
def C2(o:List (Nat×Ob)):List Nat→List Nat
 |[]=>[]
 |id::r=>Kr (get o id)++C2 o r
def zF(o:List (Nat×Ob)):List T→List Nat
 |[]=>[]
 |t::ts=>(o_ t++C2 o (o_ t))++zF o ts
def Hb(o:List (Nat×Ob)):Option V→List Nat
 |some (.c t)=>o_ t++C2 o (o_ t)
 |some (.a ts)=>zF o ts
 |_=>[]
def uZ(t:List (Nat×V))(o:List (Nat×Ob)):List Nat→List Nat
 |[]=>[]
 |x::xs=>Hb o (get t x)++uZ t o xs
theorem yM(o:List (Nat×Ob)):∀l,l.flatMap (ou o)=C2 o l
 |[]=>rfl
 |x::l=>by
  rw[cC,yM o l,C2];congr 1
theorem zE(o:List (Nat×Ob)):∀ts:List T,(ts.flatMap fun t=>o_ t++(o_ t).flatMap (ou o))=zF o ts
 |[]=>rfl
 |t::ts=>by rw[cC,zE o ts,zF,yM]
theorem xq(t:List (Nat×V))(o:List (Nat×Ob)):∀l:List Nat,(l.flatMap fun x=>match get t x with|some v=>nW o v|none=>[])=uZ t o l
 |[]=>rfl
 |x::l=>by
  rw[cC,xq t o l,uZ];congr 1;cases h:get t x with
  |none=>rfl
  |some v=>
   cases v with
   |c t=>simp only[nW,Hb,yM]
   |a ts=>simp only[nW,Hb,zE]
   |_=>rfl
theorem DQ(t:List (Nat×V))(o:List (Nat×Ob))(m:MO):kK t o m=uZ t o m.A8:=xq t o _
attribute [simp] Kr C2 zF Hb uZ
def DV(t:List (Nat×V))(o:List (Nat×Ob))(d:Option Nat):FK→Option (List (Nat×V)×List (Nat×Ob))
 |none=>none
 |some r=>some (nI t d r.1,r.2++o)
theorem AA(t:List (Nat×V))(o:List (Nat×Ob))(d:Option Nat)(v:V)(u:List (Nat×Ob)):DV t o d (some (v,u))=some (nI t d v,u++o):=rfl
theorem AB(t:List (Nat×V))(o:List (Nat×Ob))(d:Option Nat):DV t o d none=none:=rfl
theorem step_eq(cf:cO)(n i:Nat)(m:mX)(t:List (Nat×V))(o:List (Nat×Ob)):step cf n i m t o=match wanted t m.guard with
  |some true=>DV t o m.dst (act cf (n+16*i) (m.dst.getD 0) t o m.op)
  |some false=>some (nI t m.dst .undef,o)
  |none=>none:=by
 unfold step;cases wanted t m.guard with
 |none=>rfl
 |some b=>cases b with
  |false=>rfl
  |true=>simp only[];cases act cf (n+16*i) (m.dst.getD 0) t o m.op<;>rfl
def DW(t:List (Nat×V))(d:Option Nat):FK→Option (List (Nat×V))
 |none=>none
 |some r=>some (nI t d r.1)
theorem AD(t:List (Nat×V))(d:Option Nat)(r:V×List (Nat×Ob)):DW t d (some r)=some (nI t d r.1):=rfl
theorem AE(t:List (Nat×V))(d:Option Nat):DW t d none=none:=rfl
theorem DX(cf:cO)(n i:Nat)(m:mX)(t:List (Nat×V))(o:List (Nat×Ob)):lK cf n i m t o=match wanted t m.guard with
  |some true=>DW t m.dst (mV cf (n+16*i) (m.dst.getD 0) t o m.op)
  |some false=>some (nI t m.dst .undef)
  |none=>none:=by
 unfold lK;cases wanted t m.guard with
 |none=>rfl
 |some b=>cases b with
  |false=>rfl
  |true=>simp only[];cases mV cf (n+16*i) (m.dst.getD 0) t o m.op<;>rfl
def oZ{α:Type}:Nat→List α→List (Nat×α)
 |_,[]=>[]
 |i,x::xs=>(i,x)::oZ (i+1) xs
theorem yX{α:Type}:∀(l:List α) (a n:Nat),l.length≤n→(List.range' a n).zip l=oZ a l
 |[],a,n,_=>by simp[oZ]
 |x::xs,a,0,h=>by simp at h
 |x::xs,a,n+1,h=>by
  simp only[b7] at h;rw[List.range'_succ,List.zip_cons_cons,oZ,yX xs (a+1) n (by omega)]
theorem Co{α:Type}(n:Nat)(l:List α)(h:l.length≤n):(List.range n).zip l=oZ 0 l:=by
 rw[List.range_eq_range',yX l 0 n h]
attribute [simp] oZ Co
def JV:Option Ob→Nat
 |none=>0
 |some b=>b.cy
def zr(o:List (Nat×Ob)):List (Nat×Nat×Ob)→List (Nat×Nat×Nat)
 |[]=>[]
 |l::r=>(l.1,l.2.1,JV (get o l.2.1))::zr o r
theorem zq(o:List (Nat×Ob)):∀ls:List (Nat×Nat×Ob),(ls.map fun l=>(l.1,l.2.1,(get o l.2.1).elim 0 (·.cy)))=zr o ls
 |[]=>rfl
 |l::r=>by
  rw[bE,zq o r,zr];congr 2;cases get o l.2.1<;>rfl
theorem C8(cf:cO)(n:Nat)(o:List (Nat×Ob))(f:Nat)(vals:List V)(lend:List Nat)(thaw:List (Nat×Nat)):ik cf n o f vals lend thaw=
 match args o lend 0 vals with
 |none=>none
 |some (as,ls,b)=>
  if vals.length≤1000∧(ls.map (·.2.1)).all (fun id=> !b.contains id)∧(ls.map (·.2.1)).Nodup then
   match cf f as (ls.map fun l=>(l.1,l.2.2)) with
   |none=>none
   |some (res,after)=>
    match lq n o after ls,back n (zr o ls) thaw res with
    |some fQ,some (v,ups')=>if b.isEmpty∨(res.flat∧fQ.all fun u=>u.2.rows.all (·.all T.scalar)) then some (v,fQ++ups') else none
    |_,_=>none
  else none:=by
 unfold ik;cases args o lend 0 vals with
 |none=>rfl
 |some r=>obtain⟨as,ls,b⟩:=r;simp only[zq];rfl
attribute [simp] JV zr
attribute [simp] AZ A0 Hn ET ER Hk EX C4 EV EW Hm ES IX GH DQ AA AB step_eq AD AE DX C8
end Mx
namespace Mx
open Go
attribute [-simp] ct step lK kK nW ou ik
variable {M:Nat→Option Body}
def La(l:List bz)(i:Nat)(x:Nat×Nat):St:={t:=[(3,.c (.row 6 x.1 0 i)),(7,.c (boxes l)),(8,.c (I l.length)),(9,.c (I i))],o:=[(6,⟨x.1,7,true,false,(l.take i).map af⟩)],n:=x.2}
def L3(l:List bz)(x:Nat×Nat):St:={t:=[(3,.c (.row 6 x.1 0 l.length)),(7,.c (boxes l)),(8,.c (I l.length)),(9,.c (I l.length)),(10,.c (.bool false))],o:=[(6,⟨x.1,7,true,false,(l.take l.length).map af⟩)],n:=x.2}
theorem ev.ar(h:ev.k M)(l:List bz)(hl:l.length≤1048576)(hb:∀b∈l,gT b):run M 270 [.c (boxes l)] []=some (.c (.sl true 7 (l.map af)),[]):=by
 obtain⟨h0,k1⟩:=h;refine aB (b:=ev.m) h0 ⟨l.length+1, ?_⟩;have er:(l.map af).length=l.length:=by simp
 obtain⟨g,hr⟩:=ju (f:=ct (run M) (l.length+1) ev.l0) l.length (La l) 0 (L3 l)
  (fun i hi x=>by
   obtain⟨v,n⟩:=x;have h2:=cq.ar k1 l[i] (hb _ (ax hi));have e5:=cA (i:=i) (by omega);have e6:i+1≤4294967296:=by omega
   have e7:((l.take i).map af).length=i:=by simp;omega
   have e8:((l.take (i+1)).map af)=(l.take i).map af++[af l[i]]:=by rw[gK _ _ hi,cH];rfl
   have a1:∀hh,(l.map af)[i]'hh=af l[i]:=by intro hh;simp
   simp only[aE,La,e8,boxes];simp only[af,cd,ae,ints] at h2 a1 ⊢;generalize (l.take i).map af=rr at*;generalize l.map af=rb at*;generalize l[i].ae.map ah=rm at*;generalize az l[i].gone=rg at*;simp (maxSteps:=9^9) [ev.l0,ab,setAt,hi,h2,e5,e6,e7,er,a1])
  (fun x=>by
   obtain⟨v,n⟩:=x;simp only[aE,La,L3,boxes];generalize (l.take l.length).map af=rr at*;generalize l.map af=rb at*;simp (maxSteps:=9^9) [ev.l0])
 have hr0:=hr (2000016,2000096);generalize g (2000016,2000096)=y at*;obtain⟨v,n⟩:=y;have ez:((0:Nat):Int)=0:=rfl;simp only[La,L3,ez,List.take_zero,bJ,List.take_length,boxes] at hr0;simp only[boxes];generalize l.map af=rb at*;simp (maxSteps:=9^9) [bl,ev.m,ev.b,ab,hr0,er]
theorem b4.ar(h:b4.k M)(s:aT)(hs:g_ s):run M 220 [.a (ai s)] []=some (.a (aW s),[]):=by
 obtain⟨h0,k1,k2⟩:=h;have h1:=eJ.ar k1 s.gone hs.g;have h2:=ev.ar k2 s.boxes hs.b hs.i;have er:(s.boxes.map af).length=s.boxes.length:=by simp
 have eg:=aM s.gone;refine aB (b:=b4.m) h0 ⟨0, ?_⟩;simp only[ai,aW,boxes,ints] at*;generalize s.boxes.map af=rb at*;generalize az s.gone=rs at*;simp (maxSteps:=9^9) [bl,b4.m,b4.b,ab,setAt,h1,h2,er,eg]
theorem dO.ar(h:dO.k M)(s:aT)(hs: -1000000000≤s.time∧s.time≤1000000000):run M 431 [.a (ai s)] []=some (.a [I (s.time+1),I s.eE],[]):=by
 refine aB (b:=dO.m) h ⟨0, ?_⟩;have e5:IntKind.i64.wrap (s.time+1)=s.time+1:=wrap_i64 (by omega) (by omega);simp only[ai,boxes,ints];simp (maxSteps:=9^9) [bl,dO.m,dO.b,ab,setAt,e5]
theorem fM.ar(h:fM.k M)(out s:aT)(ho:g_ out)(hs:g_ s):
  run M 441 [.a (ai out),.a (ai s)] []=some (.ll [.a (ai (if bc out=true then out else s)),.c (.bool (bc out))],[]):=by
 obtain⟨h0,ko,kc⟩:=h;have h1:=aJ.ar ko out ho;have h2:=b4.ar kc s hs;have er:(s.boxes.map af).length=s.boxes.length:=by simp
 have eg:=aM s.gone;refine aB (b:=fM.m) h0 ⟨0, ?_⟩;cases c:bc out with
 |true=>
  rw[c] at h1;rw[if_pos rfl];simp only[ai,aW,boxes,ints] at*;generalize s.boxes.map af=rb at*;generalize az s.gone=rs at*;generalize out.boxes.map af=ob at*;generalize az out.gone=os at*;simp (maxSteps:=9^9) [bl,fM.m,fM.b,ab,setAt,h1]
 |false=>
  rw[c] at h1;rw[if_neg (by simp)];simp only[ai,aW,boxes,ints] at*;generalize s.boxes.map af=rb at*;generalize az s.gone=rs at*;generalize out.boxes.map af=ob at*;generalize az out.gone=os at*;simp (maxSteps:=9^9) [bl,fM.m,fM.b,ab,setAt,h1,h2]
def AY(g:Int)(b:bz):Bool:=decide (b.gid=g)||m7 b g
def JN(s:aT)(g:Int)(i:Nat)(x:Nat):St:={t:=[(1,.c (I g)),(2,.c (.ptr 2 2000000 0 0)),(8,.c (boxes s.boxes)),(9,.c (I s.boxes.length)),(10,.c (I i))],o:=[(2,⟨2000000,4,true,true,[ai s]⟩)],n:=x}
def LS(s:aT)(g:Int)(x:Nat):St:={t:=[(1,.c (I g)),(2,.c (.ptr 2 2000000 0 0)),(8,.c (boxes s.boxes)),(9,.c (I s.boxes.length)),(10,.c (I s.boxes.length)),(11,.c (.bool false))],o:=[(2,⟨2000000,4,true,true,[ai s]⟩)],n:=x}
theorem zR(l:List bz)(g:Int):(kU l g).isSome=l.any fun b=>decide (b.gid=g):=by
 unfold kU;rw[p9]
theorem fm.ar(h:fm.k M)(s:aT)(g:Int)(hs:g_ s):run M 413 [.a (ai s),.c (I g)] []=some (.c (.bool (nC s g)),[]):=by
 obtain⟨h0,ka,ki⟩:=h;have hbl:=hs.b;have hgl:=hs.g;have h2:=aH.ar ki s.gone g (by omega);refine aB (b:=fm.m) h0 ⟨s.boxes.length+1, ?_⟩;have er:(s.boxes.map af).length=s.boxes.length:=by simp
 obtain⟨g',hr⟩:=gV (f:=ct (run M) (s.boxes.length+1) fm.l0) s.boxes.length (sm (AY g) s.boxes) (JN s g) 4 (.bool true) 0 (LS s g)
  (fun i hi x c=>by
   rw[jh _ _ _ hi] at c;have hb:=hs.i _ (ax hi);have h3:=cE.ar ka s.boxes[i] g hb.m;have h4:=aH.ar ki s.boxes[i].gone g (by have:=hb.g;omega);have e5:=cA (i:=i) (by omega);have a1:∀hh,(s.boxes.map af)[i]'hh=af s.boxes[i]:=by intro hh;simp
   unfold AY m7 at c;simp only[fG,decide_eq_false_iff_not] at c;obtain⟨c0,c1,c2⟩:=c;have c2':decide (g∈s.boxes[i].gone)=false:=decide_eq_false c2;rw[c2'] at h4;have c3:¬(0:Int)≤dy (fD s.boxes[i].ae g):=by
    have:=kz (fD s.boxes[i].ae g);rw[c1] at this;simpa using this
   simp only[JN,ai,boxes,ints];simp only[af,ae,ints] at h3 h4 a1;generalize dy (fD s.boxes[i].ae g)=z at*;generalize s.boxes.map af=rb at*;generalize s.boxes[i].ae.map ah=rm at*;generalize az s.boxes[i].gone=rg at*;simp (maxSteps:=9^9) [fm.l0,ab,setAt,hi,c0,h3,h4,c3,e5,er,a1])
  (fun i hi x c=>by
   rw[jh _ _ _ hi] at c;have hb:=hs.i _ (ax hi);have h3:=cE.ar ka s.boxes[i] g hb.m;have h4:=aH.ar ki s.boxes[i].gone g (by have:=hb.g;omega);have a1:∀hh,(s.boxes.map af)[i]'hh=af s.boxes[i]:=by intro hh;simp
   unfold AY m7 at c;have c3:=kz (fD s.boxes[i].ae g);simp only[JN,ai,boxes,ints];simp only[af,ae,ints] at h3 h4 a1;generalize dy (fD s.boxes[i].ae g)=z at*;generalize (fD s.boxes[i].ae g).isSome=w at*;generalize decide (g∈s.boxes[i].gone)=w2 at*;generalize s.boxes.map af=rb at*;generalize s.boxes[i].ae.map ah=rm at*;generalize az s.boxes[i].gone=rg at*;by_cases c0:s.boxes[i].gid=g
   ·simp (maxSteps:=9^9) [fm.l0,ab,setAt,hi,c0,er,a1]
   rw[decide_eq_false c0] at c;cases w
   ·simp only[decide_eq_false_iff_not] at c3;simp only[Bool.false_or] at c;subst c;simp (maxSteps:=9^9) [fm.l0,ab,setAt,hi,c0,h3,h4,c3,er,a1]
   ·simp only[decide_eq_true_eq] at c3;simp (maxSteps:=9^9) [fm.l0,ab,setAt,hi,c0,h3,c3,er,a1])
  (fun x=>by
   simp only[JN,LS,ai,boxes,ints];generalize s.boxes.map af=rb at*;simp (maxSteps:=9^9) [fm.l0])
 have hany:nC s g=((dW (sm (AY g) s.boxes) s.boxes.length).isSome||decide (g∈s.gone)):=by
  unfold nC;rw[zR,←p9];have:s.boxes.any (AY g)=((s.boxes.any fun b=>decide (b.gid=g))||s.boxes.any fun b=>m7 b g):=by
   induction s.boxes with
   |nil=>rfl
   |cons x l ih=>
    simp only[List.any_cons,ih,AY];cases decide (x.gid=g)<;>cases m7 x g<;>simp
  rw[this];generalize (s.boxes.any fun b=>decide (b.gid=g))=p;generalize (s.boxes.any fun b=>m7 b g)=q;cases p<;>cases q<;>cases decide (g∈s.gone)<;>rfl
 rw[hany];generalize decide (g∈s.gone)=w2 at*;have ez:((0:Nat):Int)=0:=rfl;cases hq:dW (sm (AY g) s.boxes) s.boxes.length with
 |none=>
  simp only[JN,LS,hq,j7,ez] at hr;simp only[ai,boxes,ints] at*;simp (maxSteps:=9^9) [bl,fm.m,fm.b,h2,hr]
 |some q=>
  simp only[JN,hq,j7,ez] at hr;simp only[ai,boxes,ints] at*;simp (maxSteps:=9^9) [bl,fm.m,fm.b,hr]
theorem oi(h:fM.k M)(s:aT)(i:Nat)(b:bz)(ho:g_ (gg s i b))(hs:g_ s):
  run M 441 [.a [I s.eE,I (s.time+1),.sl false 7 ((s.boxes.map af).set i (af b)),ints s.gone],.a (ai s)] []=some (.ll [.a (ai (stamped s i b).1),.c (.bool (stamped s i b).2)],[]):=by
 have h1:=fM.ar h (gg s i b) s ho hs;have e:ai (gg s i b)=[I s.eE,I (s.time+1),.sl false 7 ((s.boxes.map af).set i (af b)),ints s.gone]:=by simp only[ai,gg,boxes,gZ]
 rw[e] at h1;rw[h1];unfold stamped;cases bc (gg s i b)<;>rfl
theorem eR.ar(h:eR.k M)(s:aT)(hs:lW s)(g m f:Int)(x:List UInt8):
  run M 410 [.a (ai s),.c (I g),.c (I m),.c (I f),.c (S x)] []=some (.ll [.a (ai (lG s g m f x).1),.c (.bool (lG s g m f x).2)],[]):=by
 obtain⟨h0,ka,kb,ko,kc,kk,kn,kst⟩:=h;have ht:=hs.time;have e5:IntKind.i64.wrap (s.time+1)=s.time+1:=wrap_i64 (by omega) (by omega);have h1:=gf.ar kb s g hs.lR.b;have h2:=aJ.ar ko s hs.lR;have h3:=fm.ar kk s m hs.lR;have h4:=b4.ar kc s hs.lR;have h5:=dO.ar kn s hs.time;have er:(s.boxes.map af).length=s.boxes.length:=by simp
 have eg:=aM s.gone;refine aB (b:=eR.m) h0 ⟨0, ?_⟩;unfold lG;cases c1:bc s with
 |false=>
  rw[c1] at h2;simp only[au,false_and,if_false];simp only[ai,aW,boxes,ints] at*;generalize s.boxes.map af=rb at*;generalize az s.gone=rs at*;simp (maxSteps:=9^9) [bl,eR.m,eR.b,ab,setAt,h1,h2,h4,er,eg]
 |true=>
  rw[c1] at h2;cases c2:nC s m with
  |true=>
   rw[c2] at h3;simp only[Bool.true_eq_false,and_false,if_false];simp only[ai,aW,boxes,ints] at*;generalize s.boxes.map af=rb at*;generalize az s.gone=rs at*;simp (maxSteps:=9^9) [bl,eR.m,eR.b,ab,setAt,h1,h2,h3,h4,er,eg]
  |false=>
   rw[c2] at h3;rw[if_pos ⟨rfl,rfl⟩];cases c3:kU s.boxes g with
   |none=>
    rw[c3] at h1;rw[lh c3];simp only[ai,aW,boxes,ints,dy] at*;generalize s.boxes.map af=rb at*;generalize az s.gone=rs at*;simp (maxSteps:=9^9) [bl,eR.m,eR.b,ab,setAt,h1,h2,h3,h4,er,eg]
   |some i=>
    rw[c3] at h1;obtain⟨hi,_⟩:=iB c3;rw[lg c3 hi];have hG:=(eh c1).boxes.lf _ (ax hi);have h6:=dV.ar ka s.boxes[i] hG.th m f x (s.time+1) s.eE;have hin:=wJ hG.th m f x (s.time+1) s.eE;have h7:=oi kst s i (j5 s.boxes[i] m f x (s.time+1) s.eE).1 (mI hs.lR hi hin (by have:=m8 c1;have:=rH hG m f x (s.time+1) s.eE;omega)) hs.lR;have a1:∀hh,(s.boxes.map af)[i]'hh=af s.boxes[i]:=by intro hh;simp
    have ni:¬(i:Int)<0:=by omega
    generalize j5 s.boxes[i] m f x (s.time+1) s.eE=A at*;obtain⟨b',ok⟩:=A;generalize stamped s i b'=B at*;obtain⟨s',ok'⟩:=B;have er2:(s'.boxes.map af).length=s'.boxes.length:=by simp
    have eg2:=aM s'.gone;simp only[ai,aW,boxes,ints,dy] at h1 h2 h3 h4 h5 h7 ⊢;simp only[af,cd,ae,ints] at h6 h7 a1;generalize hrb:s.boxes.map af=rb at*;generalize hrs:az s.gone=rs at*;generalize s.boxes[i].ae.map ah=r1 at*;generalize az s.boxes[i].gone=r2 at*;generalize b'.ae.map ah=r3 at*;generalize az b'.gone=r4 at*;cases ok
    ·simp only[au,if_false];simp (maxSteps:=9^9) [bl,eR.m,eR.b,ab,setAt,hi,ni,h1,h2,h3,h4,h5,h6,er,eg,a1];exact⟨hrb.symm,hrs.symm⟩
    ·simp only[if_true];generalize s'.boxes.map af=rb' at*;generalize az s'.gone=rs' at*;simp (maxSteps:=9^9) [bl,eR.m,eR.b,ab,setAt,hi,ni,h1,h2,h3,h4,h5,h6,h7,e5,er,eg,a1]
theorem eK.ar(h:eK.k M)(s:aT)(hs:lW s)(g m f:Int):
  run M 428 [.a (ai s),.c (I g),.c (I m),.c (I f)] []=some (.ll [.a (ai (kf s g m f).1),.c (.bool (kf s g m f).2)],[]):=by
 obtain⟨h0,ka,kb,ko,kc,kn,kst⟩:=h;have ht:=hs.time;have e5:IntKind.i64.wrap (s.time+1)=s.time+1:=wrap_i64 (by omega) (by omega);have h1:=gf.ar kb s g hs.lR.b;have h2:=aJ.ar ko s hs.lR;have h4:=b4.ar kc s hs.lR;have h5:=dO.ar kn s hs.time;have er:(s.boxes.map af).length=s.boxes.length:=by simp
 have eg:=aM s.gone;refine aB (b:=eK.m) h0 ⟨0, ?_⟩;unfold kf;cases c1:bc s with
 |false=>
  rw[c1] at h2;simp only[au,if_false];simp only[ai,aW,boxes,ints] at*;generalize s.boxes.map af=rb at*;generalize az s.gone=rs at*;simp (maxSteps:=9^9) [bl,eK.m,eK.b,ab,setAt,h1,h2,h4,er,eg]
 |true=>
  rw[c1] at h2;rw[if_pos rfl];cases c3:kU s.boxes g with
  |none=>
   rw[c3] at h1;rw[lh c3];simp only[ai,aW,boxes,ints,dy] at*;generalize s.boxes.map af=rb at*;generalize az s.gone=rs at*;simp (maxSteps:=9^9) [bl,eK.m,eK.b,ab,setAt,h1,h2,h4,er,eg]
  |some i=>
   rw[c3] at h1;obtain⟨hi,_⟩:=iB c3;rw[lg c3 hi];have hG:=(eh c1).boxes.lf _ (ax hi);have h6:=dD.ar ka s.boxes[i] hG.th m f (s.time+1) s.eE;have hin:=ug hG.th m f (s.time+1) s.eE;have h7:=oi kst s i (jo s.boxes[i] m f (s.time+1) s.eE).1 (mI hs.lR hi hin (by have:=m8 c1;have:=qp hG m f (s.time+1) s.eE;omega)) hs.lR;have a1:∀hh,(s.boxes.map af)[i]'hh=af s.boxes[i]:=by intro hh;simp
   have ni:¬(i:Int)<0:=by omega
   generalize jo s.boxes[i] m f (s.time+1) s.eE=A at*;obtain⟨b',ok⟩:=A;generalize stamped s i b'=B at*;obtain⟨s',ok'⟩:=B;have er2:(s'.boxes.map af).length=s'.boxes.length:=by simp
   have eg2:=aM s'.gone;simp only[ai,aW,boxes,ints,dy] at h1 h2 h4 h5 h7 ⊢;simp only[af,cd,ae,ints] at h6 h7 a1;generalize hrb:s.boxes.map af=rb at*;generalize hrs:az s.gone=rs at*;generalize s.boxes[i].ae.map ah=r1 at*;generalize az s.boxes[i].gone=r2 at*;generalize b'.ae.map ah=r3 at*;generalize az b'.gone=r4 at*;cases ok
   ·simp only[au,if_false];simp (maxSteps:=9^9) [bl,eK.m,eK.b,ab,setAt,hi,ni,h1,h2,h4,h5,h6,er,eg,a1];exact⟨hrb.symm,hrs.symm⟩
   ·simp only[if_true];generalize s'.boxes.map af=rb' at*;generalize az s'.gone=rs' at*;simp (maxSteps:=9^9) [bl,eK.m,eK.b,ab,setAt,hi,ni,h1,h2,h4,h5,h6,h7,e5,er,eg,a1]
theorem eM.ar(h:eM.k M)(s:aT)(hs:lW s)(g m:Int):
  run M 429 [.a (ai s),.c (I g),.c (I m)] []=some (.ll [.a (ai (kE s g m).1),.c (.bool (kE s g m).2)],[]):=by
 obtain⟨h0,kt,kb,ko,kc⟩:=h;have h1:=gf.ar kb s g hs.lR.b;have h2:=aJ.ar ko s hs.lR;have h4:=b4.ar kc s hs.lR;have er:(s.boxes.map af).length=s.boxes.length:=by simp
 have eg:=aM s.gone;refine aB (b:=eM.m) h0 ⟨0, ?_⟩;unfold kE;cases c1:bc s with
 |false=>
  rw[c1] at h2;simp only[au,if_false];simp only[ai,aW,boxes,ints] at*;generalize s.boxes.map af=rb at*;generalize az s.gone=rs at*;simp (maxSteps:=9^9) [bl,eM.m,eM.b,ab,setAt,h1,h2,h4,er,eg]
 |true=>
  rw[c1] at h2;rw[if_pos rfl];cases c3:kU s.boxes g with
  |none=>
   rw[c3] at h1;rw[lh c3];simp only[ai,aW,boxes,ints,dy] at*;generalize s.boxes.map af=rb at*;generalize az s.gone=rs at*;simp (maxSteps:=9^9) [bl,eM.m,eM.b,ab,setAt,h1,h2,h4,er,eg]
  |some i=>
   rw[c3] at h1;obtain⟨hi,_⟩:=iB c3;rw[lg c3 hi];have hG:=(eh c1).boxes.lf _ (ax hi);have h6:=fx.ar kt s.boxes[i] hG.th m;have a1:∀hh,(s.boxes.map af)[i]'hh=af s.boxes[i]:=by intro hh;simp
   have ni:¬(i:Int)<0:=by omega
   generalize jH s.boxes[i] m=A at*;obtain⟨b',ok⟩:=A;have es:(s.boxes.set i b').map af=(s.boxes.map af).set i (af b'):=gZ;simp only[ai,aW,boxes,ints,dy] at h1 h2 h4 ⊢;simp only[af,cd,ae,ints] at h6 a1 es;cases ok
   ·simp only[au,if_false];generalize s.boxes.map af=rb at*;generalize az s.gone=rs at*;generalize s.boxes[i].ae.map ah=r1 at*;generalize az s.boxes[i].gone=r2 at*;generalize b'.ae.map ah=r3 at*;generalize az b'.gone=r4 at*;simp (maxSteps:=9^9) [bl,eM.m,eM.b,ab,setAt,hi,ni,h1,h2,h4,h6,er,eg,a1]
   ·simp only[if_true,es];clear es;generalize s.boxes.map af=rb at*;generalize az s.gone=rs at*;generalize s.boxes[i].ae.map ah=r1 at*;generalize az s.boxes[i].gone=r2 at*;generalize b'.ae.map ah=r3 at*;generalize az b'.gone=r4 at*;simp (maxSteps:=9^9) [bl,eM.m,eM.b,ab,setAt,hi,ni,h1,h2,h4,h6,er,eg,a1]
theorem dM.ar(h:dM.k M)(s:aT)(hs:lW s)(g:Int)(nm:List UInt8)(hn:nm.length≤1048576):
  run M 411 [.a (ai s),.c (I g),.c (S nm)] []=some (.ll [.a (ai (jI s g nm).1),.c (.bool (jI s g nm).2)],[]):=by
 obtain⟨h0,kb,ko,kc,kn,kst,koe⟩:=h;have ht:=hs.time;have h1:=gf.ar kb s g hs.lR.b;have h2:=aJ.ar ko s hs.lR;have h3:=dE.ar kn s nm hs.lR.b;have h4:=b4.ar kc s hs.lR;have h5:=dO.ar kst s hs.time;have er:(s.boxes.map af).length=s.boxes.length:=by simp
 have eg:=aM s.gone;have e5:IntKind.i64.wrap (s.time+1)=s.time+1:=wrap_i64 (by omega) (by omega);refine aB (b:=dM.m) h0 ⟨0, ?_⟩;unfold jI;cases c1:bc s with
 |false=>
  rw[c1] at h2;simp only[au,false_and,if_false];simp only[ai,aW,boxes,ints] at*;generalize s.boxes.map af=rb at*;generalize az s.gone=rs at*;simp (maxSteps:=9^9) [bl,dM.m,dM.b,ab,setAt,h1,h2,h4,er,eg]
 |true=>
  rw[c1] at h2;cases c3:kU s.boxes g with
  |none=>
   rw[c3] at h1;have e:(if true=true∧(named s.boxes nm).isSome=false then at_ s g fun i b=>stamped s i (jn s nm b) else(s,false))=(s,false):=by
    rw[lh c3];split<;>rfl
   rw[e];simp only[ai,aW,boxes,ints,dy] at*;generalize s.boxes.map af=rb at*;generalize az s.gone=rs at*;simp (maxSteps:=9^9) [bl,dM.m,dM.b,ab,setAt,h1,h2,h4,er,eg]
  |some i=>
   rw[c3] at h1;obtain⟨hi,_⟩:=iB c3;have ni:¬(i:Int)<0:=by omega
   have c0:=kz (named s.boxes nm);cases c2:(named s.boxes nm).isSome with
   |true=>
    rw[c2] at c0;simp only[decide_eq_true_eq] at c0;simp only[Bool.true_eq_false,and_false,if_false];generalize dy (named s.boxes nm)=z at*;simp only[ai,aW,boxes,ints,dy] at*;generalize s.boxes.map af=rb at*;generalize az s.gone=rs at*;simp (maxSteps:=9^9) [bl,dM.m,dM.b,ab,setAt,ni,c0,h1,h2,h3,h4,er,eg]
   |false=>
    rw[c2] at c0;simp only[decide_eq_false_iff_not] at c0;rw[if_pos ⟨rfl,rfl⟩,lg c3 hi];have hG:=(eh c1).boxes.lf _ (ax hi);have hin:gT (jn s nm s.boxes[i]):=⟨hG.th.m,hG.th.g,hn,hG.th.f⟩;have h6:=oi koe s i (jn s nm s.boxes[i]) (mI hs.lR hi hin (by have:=m8 c1;have:=hG.len;simp only[jn];omega)) hs.lR;have a1:∀hh,(s.boxes.map af)[i]'hh=af s.boxes[i]:=by intro hh;simp
    generalize stamped s i (jn s nm s.boxes[i])=B at*;obtain⟨s',ok'⟩:=B;generalize dy (named s.boxes nm)=z at*;simp only[ai,aW,boxes,ints,dy] at h1 h2 h3 h4 h5 h6 ⊢;simp only[af,ae,ints,jn] at h6 a1 ⊢;generalize s'.boxes.map af=rb' at*;generalize az s'.gone=rs' at*;generalize s.boxes.map af=rb at*;generalize az s.gone=rs at*;generalize s.boxes[i].ae.map ah=r1 at*;generalize az s.boxes[i].gone=r2 at*;simp (maxSteps:=9^9) [bl,dM.m,dM.b,ab,setAt,hi,ni,c0,h1,h2,h3,h4,h5,h6,e5,er,eg,a1]
theorem qX(h:ba.k M)(p:List (List T))(x:List T)(q:List (List T))(hl:p.length+(q.length+1)≤1048576):
  run M 442 [.c (.row 0 0 0 (p.length+(q.length+1))),.c (I p.length),.c (I ((p.length:Int)+1))] [(0,⟨0,7,true,false,p++x::q⟩)]=
   some (.c (.row 0 0 0 (p.length+q.length)),[(0,⟨0,7,true,false,p++q++[rF]⟩)]):=by
 refine aB (b:=ba.m) h ⟨0, ?_⟩;obtain⟨q',y,hy,hq'⟩:=BX x q;have g1:(0:Int)≤(p.length:Int)+1:=by omega
 have g2:¬(p.length:Int)=(p.length:Int)+1:=by omega
 have g3:(p++x::q).take p.length=p:=by simp
 have g4:(p++x::q).drop (p.length+1)=q:=by simp
 have g5:(p++x::q).drop (p.length+q.length)=[y]:=by
  rw[hy,←hq',List.drop_append];simp
 have g6:p.length+(q.length+1)-(p.length+1)=q.length:=by omega
 have g7:(p++x::q).length=p.length+(q.length+1):=by simp
 have g8:p.length+(q.length+1)-(p.length+q.length)=1:=by omega
 have g9:p.length+q.length≤p.length+(q.length+1):=by omega
 have g10:p.length+q.length≤4294967296:=by omega
 have g11:¬p.length+q.length=p.length+(q.length+1):=by omega
 have g12:(p++q++[y]).length=p.length+(q.length+1):=by simp
 have g13:(p++q++[y]).take (p.length+q.length)=p++q:=by rw[←aF,List.take_left]
 have g19:(1:Int)≤(q.length:Int)+1:=by omega
 have g20:1≤q.length+1:=by omega
 have g14:(p++q++[y]).drop (p.length+(q.length+1))=[]:=dY (by rw[g12];omega);have g15:p.length+1≤p.length+(q.length+1):=by omega
 have g16:p.length+q.length+1=p.length+(q.length+1):=by omega
 have g17:(0:Int)≤(p.length:Int)+(q.length:Int):=by omega
 have g18:(0:Int)≤(p.length:Int)+((q.length:Int)+1):=by omega
 have g21:p.length+1+q.length≤p.length+(q.length+1):=by omega
 have g22:1+q.length≤q.length+1:=by omega
 generalize hR:p++x::q=R at*;simp only[cP] at g12 g13 g14;by_cases hq0:q=[]
 ·subst hq0;by_cases hz:p.length=0
  ·have hp:p=[]:=aZ hz;subst hp;simp at g1 g2 g3 g4 g5 g6 g7 g8 g9 g10 g11 g12 g13 g14 g15 g16 g17 g18;simp (maxSteps:=9^9) (disch:=(first|omega|(simp;done)|(simp;omega))) [bl,ba.m,ba.b,g5]
  ·simp at g1 g2 g3 g4 g5 g6 g7 g8 g9 g10 g11 g12 g13 g14 g15 g16 g17 g18;simp (maxSteps:=9^9) (disch:=(first|omega|(simp;done)|(simp;omega))) [bl,ba.m,ba.b,g1,g2,g3,g5,g7,g10,hz]
 ·have g23:((p.length:Int)+(q.length:Int)).toNat=p.length+q.length:=by omega
  have g24:((p.length:Int)+((q.length:Int)+1)).toNat=p.length+(q.length+1):=by omega
  have g25:max ((p.length:Int)+(q.length:Int)) 0≤(p.length:Int)+((q.length:Int)+1):=by omega
  by_cases hz:p.length=0
  ·have hp:p=[]:=aZ hz;subst hp;simp at g1 g2 g3 g4 g5 g6 g7 g8 g9 g10 g11 g12 g13 g14 g15 g16 g17 g18;simp (maxSteps:=9^9) (disch:=(first|omega|(simp;done)|(simp;omega))) [bl,ba.m,ba.b,ab,g4,g5,g7,g10,g18,g20,g22,hq0]
  ·simp (maxSteps:=9^9) (disch:=(first|omega|(simp;done)|(simp;omega))) [bl,ba.m,ba.b,ab,g1,g2,g3,g4,g5,g6,g7,g8,g9,g10,g12,g13,g14,g15,g16,g17,g18,g21,g23,g24,hz,hq0]
theorem se(h:ba.k M)(r:List (List T))(k:Nat)(hk:k<r.length)(hl:r.length≤1048576):
  run M 442 [.c (.row 0 0 0 r.length),.c (I k),.c (I ((k:Int)+1))] [(0,⟨0,7,true,false,r⟩)]=
   some (.c (.row 0 0 0 (r.length-1)),[(0,⟨0,7,true,false,r.take k++r.drop (k+1)++[rF]⟩)]):=by
 have e:r.take k++r[k]::r.drop (k+1)=r:=by simp
 have:=qX h (r.take k) r[k] (r.drop (k+1)) (by simp;omega);rw[e] at this;have e1:(r.take k).length=k:=by simp;omega
 have e2:(r.drop (k+1)).length=r.length-(k+1):=by simp
 rw[e1,e2] at this;have e3:k+(r.length-(k+1)+1)=r.length:=by omega
 have e4:k+(r.length-(k+1))=r.length-1:=by omega
 rw[e3,e4] at this;exact this
theorem fy.ar(h:fy.k M)(s:aT)(hs:lW s)(g:Int):
  run M 412 [.a (ai s),.c (I g)] []=some (.ll [.a (ai (lI s g).1),.c (.bool (lI s g).2)],[]):=by
 obtain⟨h0,kb,ko,kp,kc,kd⟩:=h;have h1:=gf.ar kb s g hs.lR.b;have h2:=aJ.ar ko s hs.lR;have h4:=b4.ar kc s hs.lR;have h5:=iR.ar kp s.gone g hs.lR.g;have er:(s.boxes.map af).length=s.boxes.length:=by simp
 have eg:=aM s.gone;have hbl:=hs.lR.b;refine aB (b:=fy.m) h0 ⟨0, ?_⟩;unfold lI;cases c1:bc s with
 |false=>
  rw[c1] at h2;simp only[au,false_and,if_false];simp only[ai,aW,boxes,ints] at*;generalize s.boxes.map af=rb at*;generalize az s.gone=rs at*;simp (maxSteps:=9^9) [bl,fy.m,fy.b,ab,setAt,h1,h2,h4,er,eg]
 |true=>
  rw[c1] at h2;cases c3:kU s.boxes g with
  |none=>
   rw[c3] at h1;have e:(if true=true∧s.gone.length<20 then at_ s g fun i _=>({s with boxes:=s.boxes.take i++s.boxes.drop (i+1),gone:=jU s.gone g},true) else(s,false))=(s,false):=by
    rw[lh c3];split<;>rfl
   rw[e];simp only[ai,aW,boxes,ints,dy] at*;generalize s.boxes.map af=rb at*;generalize az s.gone=rs at*;simp (maxSteps:=9^9) [bl,fy.m,fy.b,ab,setAt,h1,h2,h4,er,eg]
  |some i=>
   rw[c3] at h1;obtain⟨hi,_⟩:=iB c3;have ni:¬(i:Int)<0:=by omega
   by_cases c2:s.gone.length<20
   ·have n2:¬s.gone.length=20:=by omega
    have n3:¬(s.gone.length:Int)=20:=by omega
    rw[if_pos ⟨rfl,c2⟩,lg c3 hi];rw[Ac (ie.1 c1).gone] at h5;have h6:=se kd (s.boxes.map af) i (by rw[er];exact hi) (by rw[er];exact hbl);rw[er] at h6;have e9:=cA (i:=i) (by omega);have e10:(s.boxes.take i++s.boxes.drop (i+1)).map af=(s.boxes.map af).take i++(s.boxes.map af).drop (i+1):=by simp[List.map_take,List.map_drop]
    have e11:((s.boxes.map af).take i++((s.boxes.map af).drop (i+1)++[rF])).take (s.boxes.length-1)=(s.boxes.map af).take i++(s.boxes.map af).drop (i+1):=by
     rw[←cP];exact List.take_left' (by simp;omega)
    have e12:=aM (jU s.gone g);have e13:s.boxes.length≤min i s.boxes.length+(s.boxes.length-(i+1)+1)+1:=by omega
    simp only[ai,aW,boxes,ints,dy,e10] at h1 h2 h4 h5 h6 ⊢;generalize az (jU s.gone g)=rp at*;generalize s.boxes.map af=rb at*;generalize az s.gone=rs at*;simp (maxSteps:=9^9) [bl,fy.m,fy.b,ab,setAt,ni,n3,h1,h2,h4,h5,h6,e9,e11,e12,e13,er,eg]
   ·have c2':(s.gone.length:Int)=20:=by have:=(ie.1 c1).mG;omega
    have c2'':s.gone.length=20:=by have:=(ie.1 c1).mG;omega
    simp only[c2,and_false,if_false];simp only[ai,aW,boxes,ints,dy] at*;generalize s.boxes.map af=rb at*;generalize az s.gone=rs at*;simp (maxSteps:=9^9) [bl,fy.m,fy.b,ab,setAt,ni,c2'',h1,h2,h4,er,eg]
theorem H4(p:bz→Bool):∀l:List bz,(∀i (h:i<l.length),i<(l.takeWhile p).length→p l[i]=true)∧(∀h:(l.takeWhile p).length<l.length,p l[(l.takeWhile p).length]=false)
 |[]=>⟨fun i h=>by simp at h,fun h=>by simp at h⟩
 |x::l=>by
  obtain⟨h1,h2⟩:=H4 p l;by_cases c:p x=true
  ·simp only[List.takeWhile_cons,c,if_true,b7];refine⟨fun i h hi=> ?_,fun h=> ?_⟩
   ·cases i with
    |zero=>simpa using c
    |succ i=>simpa using h1 i (by simpa using h) (by omega)
   ·simpa using h2 (by omega)
  ·have c':p x=false:=by simpa using c
   simp only[List.takeWhile_cons,c',au,if_false,fE];exact⟨fun i h hi=>by omega,fun _=>by simpa using c'⟩
theorem DP(p:bz→Bool)(l:List bz):(l.takeWhile p).length≤l.length:=by
 have:=congrArg List.length (List.takeWhile_append_dropWhile (p:=p) (l:=l));simp only[aF] at this;omega
theorem F5(p:bz→Bool)(l:List bz):l.take (l.takeWhile p).length=l.takeWhile p:=by
 have:=List.takeWhile_append_dropWhile (p:=p) (l:=l);exact(congrArg (List.take _) this.symm).trans (List.take_left' rfl)
theorem F6(p:bz→Bool)(l:List bz):l.drop (l.takeWhile p).length=l.dropWhile p:=by
 have:=List.takeWhile_append_dropWhile (p:=p) (l:=l);exact(congrArg (List.drop _) this.symm).trans (List.drop_left' rfl)
theorem xp(g:Int):∀l:List bz,(l.Pairwise fun x y=>x.gid<y.gid)→(∀b∈l,b.gid≠g)→
  l.takeWhile (fun b=>decide (b.gid<g))=l.filter (fun b=>decide (b.gid<g))∧l.dropWhile (fun b=>decide (b.gid<g))=l.filter (fun b=>decide (g<b.gid))
 |[],_,_=>⟨rfl,rfl⟩
 |x::l,ha,hn=>by
  rw[List.pairwise_cons] at ha;obtain⟨h1,h2⟩:=xp g l ha.2 fun b hb=>hn b (bp _ hb)
  have hx:=hn x (bj ..);by_cases c:x.gid<g
  ·have c':¬g<x.gid:=by omega
   simp only[List.takeWhile_cons,List.dropWhile_cons,h_,c,c',decide_true,decide_false,if_true,au,if_false,h1,h2,and_self]
  ·have c':g<x.gid:=by omega
   simp only[List.takeWhile_cons,List.dropWhile_cons,h_,c,c',decide_true,decide_false,if_true,au,if_false];have f1:l.filter (fun b=>decide (b.gid<g))=[]:=List.filter_eq_nil_iff.2 fun b hb=>by have:=ha.1 b hb;simp;omega
   have f2:l.filter (fun b=>decide (g<b.gid))=l:=List.filter_eq_self.2 fun b hb=>by have:=ha.1 b hb;simp;omega
   rw[f1,f2];exact⟨rfl,rfl⟩
structure Lh where
 s:aT
 g:Int
 nm:List UInt8
 u3:Nat
 u6:Nat
 u8:Nat
 w2:Nat
 w3:Nat
def Kj(c:Lh):List (Nat×Ob):=[(3,⟨c.u3,4,true,true,[ai c.s]⟩),(6,⟨c.u6,4,true,true,[ny]⟩),(8,⟨c.u8,4,true,true,[[I c.s.eE,I c.s.time,.row 11102 c.w2 0 c.s.boxes.length,.row 11103 c.w3 0 c.s.gone.length]]⟩),(11102,⟨c.w2,7,true,false,c.s.boxes.map af⟩),(11103,⟨c.w3,1,true,false,az c.s.gone⟩)]
def Ki(c:Lh)(i:Nat)(n:Nat):St:={t:=[(1,.c (I c.g)),(2,.c (S c.nm)),(3,.c (.ptr 3 c.u3 0 0)),(6,.c (.ptr 6 c.u6 0 0)),(8,.c (.ptr 8 c.u8 0 0)),(9,.c (I i))],o:=Kj c,n:=n}
def K7(c:Lh)(i:Nat)(n:Nat):St:={t:=[(1,.c (I c.g)),(2,.c (S c.nm)),(3,.c (.ptr 3 c.u3 0 0)),(6,.c (.ptr 6 c.u6 0 0)),(8,.c (.ptr 8 c.u8 0 0)),(9,.c (I i)),(41,.c (.bool false))],o:=Kj c,n:=n}
theorem GK(k:Nat)(c:Lh)(hl:c.s.boxes.length≤1048576):
  ∃f:Nat→Nat,∀n,eG (ct (run M) k cV.l0) ((c.s.boxes.takeWhile fun b=>decide (b.gid<c.g)).length+1) (Ki c 0 n)=some (.exit 0,K7 c (c.s.boxes.takeWhile fun b=>decide (b.gid<c.g)).length (f n)):=by
 have er:(c.s.boxes.map af).length=c.s.boxes.length:=by simp
 have htl:=DP (fun b:bz=>decide (b.gid<c.g)) c.s.boxes;obtain⟨t1,t2⟩:=H4 (fun b:bz=>decide (b.gid<c.g)) c.s.boxes;generalize (c.s.boxes.takeWhile fun b=>decide (b.gid<c.g)).length=at' at*;exact ju (f:=ct (run M) k cV.l0) at' (Ki c) 0 (K7 c at')
  (fun i hi n=>by
   have hi2:i<c.s.boxes.length:=by omega
   have q:=t1 i hi2 hi;simp only[decide_eq_true_eq] at q;have e5:=cA (i:=i) (by omega);have a1:∀hh,(c.s.boxes.map af)[i]'hh=af c.s.boxes[i]:=by intro hh;simp
   simp only[Ki,Kj,ai,boxes,ints];simp only[af,ae,ints] at a1;generalize c.s.boxes.map af=rb at*;generalize az c.s.gone=rs at*;generalize c.s.boxes[i].ae.map ah=r1 at*;generalize az c.s.boxes[i].gone=r2 at*;simp (maxSteps:=9^9) [cV.l0,hi2,q,e5,er,a1])
  (fun n=>by
   simp only[Ki,K7,Kj,ai,boxes,ints];by_cases c9:at'<c.s.boxes.length
   ·have q:=t2 c9;simp only[decide_eq_false_iff_not] at q;have a1:∀hh,(c.s.boxes.map af)[at']'hh=af c.s.boxes[at']:=by intro hh;simp
    simp only[af,ae,ints] at a1;generalize c.s.boxes.map af=rb at*;generalize az c.s.gone=rs at*;generalize c.s.boxes[at'].ae.map ah=r1 at*;generalize az c.s.boxes[at'].gone=r2 at*;simp (maxSteps:=9^9) [cV.l0,c9,q,er,a1]
   ·generalize c.s.boxes.map af=rb at*;generalize az c.s.gone=rs at*;simp (maxSteps:=9^9) [cV.l0,c9])
theorem CX{s:aT}{g:Int}(h:nC s g=false):∀b∈s.boxes,b.gid≠g:=by
 intro b hb e;unfold nC at h;rw[zR] at h;simp only[fG,List.any_eq_false,decide_eq_true_eq] at h;exact h.1.1 b hb e
theorem Ha(h:M 440=some (.ext A2))(r:List (List T))(x:List T)(i:Nat)(hi:i≤r.length)(hl:r.length≤1048576):
  run M 440 [.c (.row 0 0 0 r.length),.c (I i),.c (.row 2 2 0 1)] [(0,⟨0,7,true,false,r⟩),(2,⟨2,7,true,false,[x]⟩)]=some (.c (.sl true 7 (r.take i++[x]++r.drop i)),[(2,⟨2,7,true,false,[x]⟩)]):=by
 refine yo h ?_;have h1:(0:Int)≤(i:Int):=by omega
 have h2:(i:Int)≤(r.length:Int):=by omega
 simp only[A2,fp,bP,Nat.le_refl,h1,h2,hl,and_self,if_true,List.take_length]
theorem cV.ar(h:cV.k M)(s:aT)(hs:lW s)(g:Int)(nm:List UInt8)(hn:nm.length≤1048576):
  run M 409 [.a (ai s),.c (I g),.c (S nm)] []=some (.ll [.a (ai (k_ s g nm).1),.c (.bool (k_ s g nm).2)],[]):=by
 obtain⟨h0,ko,kc,kn,kk,kst,ki,koe⟩:=h;have ht:=hs.time;have hbl:=hs.lR.b;have h2:=aJ.ar ko s hs.lR;have h3:=dE.ar kn s nm hs.lR.b;have h7:=fm.ar kk s g hs.lR;have h4:=b4.ar kc s hs.lR;have h5:=dO.ar kst s hs.time;have er:(s.boxes.map af).length=s.boxes.length:=by simp
 have eg:=aM s.gone;have e5:IntKind.i64.wrap (s.time+1)=s.time+1:=wrap_i64 (by omega) (by omega);have c0:=kz (named s.boxes nm);refine aB (b:=cV.m) h0 ⟨(s.boxes.takeWhile fun b=>decide (b.gid<g)).length+1, ?_⟩;unfold k_;cases c1:bc s with
 |false=>
  rw[c1] at h2;simp only[au,false_and,if_false];simp only[ai,aW,boxes,ints] at*;generalize s.boxes.map af=rb at*;generalize az s.gone=rs at*;simp (maxSteps:=9^9) [bl,cV.m,cV.b,ab,setAt,h2,h4,er,eg]
 |true=>
  rw[c1] at h2;cases c2:nC s g with
  |true=>
   rw[c2] at h7;simp only[Bool.true_eq_false,false_and,and_false,if_false];simp only[ai,aW,boxes,ints] at*;generalize s.boxes.map af=rb at*;generalize az s.gone=rs at*;simp (maxSteps:=9^9) [bl,cV.m,cV.b,ab,setAt,h2,h4,h7,er,eg]
  |false=>
   rw[c2] at h7;cases c3:(named s.boxes nm).isSome with
   |true=>
    rw[c3] at c0;simp only[decide_eq_true_eq] at c0;simp only[Bool.true_eq_false,and_false,if_false];generalize dy (named s.boxes nm)=z at*;simp only[ai,aW,boxes,ints] at*;generalize s.boxes.map af=rb at*;generalize az s.gone=rs at*;simp (maxSteps:=9^9) [bl,cV.m,cV.b,ab,setAt,c0,h2,h3,h4,h7,er,eg]
   |false=>
    rw[c3] at c0;simp only[decide_eq_false_iff_not] at c0;rw[if_pos ⟨rfl,rfl,rfl⟩];have h6:=fM.ar koe (fS s g nm) s (xF c1 g nm hn) hs.lR;obtain⟨f,r1⟩:=GK (M:=M) ((s.boxes.takeWhile fun b=>decide (b.gid<g)).length+1) ⟨s,g,nm,2000000,2000016,2000080,2000066,2000067⟩ hbl;have hat:=DP (fun b:bz=>decide (b.gid<g)) s.boxes;have h8:=Ha ki (s.boxes.map af) (af (jB s g nm)) (s.boxes.takeWhile fun b=>decide (b.gid<g)).length (by rw[er];exact hat) (by rw[er];exact hbl);have em:(fS s g nm).boxes.map af=(s.boxes.map af).take (s.boxes.takeWhile fun b=>decide (b.gid<g)).length++[af (jB s g nm)]++(s.boxes.map af).drop (s.boxes.takeWhile fun b=>decide (b.gid<g)).length:=by
     obtain⟨f1,f2⟩:=xp g s.boxes (ie.1 c1).Ih (CX c2);rw[←List.map_take,←List.map_drop,F5,F6,f1,f2];simp[fS]
    rw[←em,er] at h8;have el:((fS s g nm).boxes.map af).length=s.boxes.length+1:=by rw[em];simp;omega
    have ez:((0:Nat):Int)=0:=rfl;have ew:(fS s g nm).eE=s.eE:=rfl;have et:(fS s g nm).time=s.time+1:=rfl;have egn:(fS s g nm).gone=s.gone:=rfl;have en:af (jB s g nm)=[I g,S nm,I (s.time+1),I s.eE,I 1,.sl false 4 [],.sl false 1 []]:=by simp[jB,af,az]
    have hres:(if bc (fS s g nm)=true then(fS s g nm,true) else(s,false))=((if bc (fS s g nm)=true then fS s g nm else s),bc (fS s g nm)):=by
     cases bc (fS s g nm)<;>rfl
    rw[hres];generalize hX:(if bc (fS s g nm)=true then fS s g nm else s)=X at*;generalize bc (fS s g nm)=wX at*;have hr0:=r1 2000352;clear em hX;simp only[Ki,K7,Kj,ez] at hr0;simp only[ai,aW,boxes,ints,ew,et,egn,en] at h2 h3 h4 h5 h6 h7 h8 hr0 ⊢;generalize (fS s g nm).boxes.map af=rm at*;generalize X.boxes.map af=rx at*;generalize az X.gone=gx at*;generalize dy (named s.boxes nm)=z at*;generalize s.boxes.map af=rb at*;generalize az s.gone=rs at*;generalize (s.boxes.takeWhile fun b=>decide (b.gid<g)).length=at' at*;simp (maxSteps:=9^9) [bl,cV.m,cV.b,ab,setAt,c0,h2,h3,h4,h5,h6,h7,h8,hr0,e5,er,eg,el]
end Mx
namespace Mx
open Go
variable {M:Nat→Option Body}
def jZ(l:List UInt8)(c:iC):bz×iC:=
 let g:=cvar l c
 let nm:=iL l g.2
 let st:=kT l nm.2
 let nx:=cvar l st.2
 (⟨g.1,nm.1,st.1.1,st.1.2,nx.1,[],[]⟩,nx.2)
def j0(l:List UInt8)(c:iC):bz×iC:=
 let h:=jZ l c
 let k:=jf l 10 h.2
 let ms:=j6 (iX l) k.1.toNat k.2
 let go:=mP l 40 ms.2
 ({h.1 with ae:=ms.1,gone:=go.1},go.2)
def Ig(b:bz)(i:Nat)(acc:List bo)(x:jN):List (Nat×Ob):=[(2,⟨x.a,7,true,true,[rF]⟩),(3,⟨x.b,7,true,true,[[I b.gid,S b.name,I b.time,I b.eE,I b.next,if i=0 then .aN 4 else .row 29 x.c 0 i,.aN 1]]⟩)]++if i=0 then [] else [(29,⟨x.c,4,true,false,acc.map ah⟩)]
def Bf(l:List UInt8)(b:bz)(n i:Nat)(acc:List bo)(c:iC)(x:jN):St:={t:=[(0,.c pc),(2,.c (.ptr 2 x.a 0 0)),(3,.c (.ptr 3 x.b 0 0)),(20,.c (I n)),(21,.c (I i))],o:=(0,lU 0 l c)::Ig b i acc x,n:=x.d}
def E6(l:List UInt8)(b:bz)(n:Nat)(acc:List bo)(c:iC)(x:jN):St:={t:=[(0,.c pc),(2,.c (.ptr 2 x.a 0 0)),(3,.c (.ptr 3 x.b 0 0)),(20,.c (I n)),(21,.c (I n)),(22,.c (.bool false))],o:=(0,lU 0 l c)::Ig b n acc x,n:=x.d}
theorem dn.ar(h:dn.k M)(l:List UInt8)(hl:l.length≤4611686018427387904)(c:iC):
  run M 143 [.c pc] [(0,lU 0 l c)]=some (.a (cd (j0 l c).1),[(0,lU 0 l (j0 l c).2)]):=by
 obtain⟨h0,k1,k2,k3,k4,k5,k6⟩:=h;have h1:=b8.ar k1 l hl c;have h2:=fb.ar k2 l hl (cvar l c).2;have h3:=fa.ar k5 l hl (iL l (cvar l c).2).2;have h4:=b8.ar k1 l hl (kT l (iL l (cvar l c).2).2).2;simp only[j0];have e0:jZ l c=(⟨(cvar l c).1,(iL l (cvar l c).2).1,(kT l (iL l (cvar l c).2).2).1.1,(kT l (iL l (cvar l c).2).2).1.2,(cvar l (kT l (iL l (cvar l c).2).2).2).1,[],[]⟩,(cvar l (kT l (iL l (cvar l c).2).2).2).2):=rfl;rw[e0];generalize cvar l c=q1 at*;generalize iL l q1.2=q2 at*;generalize kT l q2.2=q3 at*;generalize cvar l q3.2=q4 at*;have h5:=dK.ar k3 l hl 10 q4.2;have hn:=pe l 10 q4.2;simp only;generalize jf l 10 q4.2=q5 at*;obtain⟨n,c1⟩:=q5;simp only at hn ⊢;obtain⟨n,rfl⟩:=gB hn.1;simp only[fp];refine aB (b:=dn.m) h0 ⟨n+1, ?_⟩;obtain⟨g,hr⟩:=qi (f:=ct (run M) (n+1) dn.l0) n (iX l) (Bf l ⟨q1.1,q2.1,q3.1.1,q3.1.2,q4.1,[],[]⟩ n) 0 (E6 l ⟨q1.1,q2.1,q3.1.1,q3.1.2,q4.1,[],[]⟩ n)
  (fun i hi acc c x ha=>by
   obtain⟨v,w,z,x⟩:=x;have h2:=dL.ar k6 l hl c;simp only[jN.ex];cases i with
   |zero=>
    have:acc=[]:=aZ ha;subst this;simp (maxSteps:=9^9) [dn.l0,setAt,Bf,Ig,hi,h2,wrap_one,iv,ah]
   |succ i=>
    have e5:IntKind.i64.wrap ((i:Int)+1+1)=(i:Int)+1+1:=wrap_i64 (by omega) (by omega);have e6:i+1+1≤4294967296:=by omega
    have e7:(i:Int)+1<n:=by omega
    simp (maxSteps:=9^9) [dn.l0,setAt,Bf,Ig,e7,h2,e5,e6,ha,iv,ah,ab])
  (fun acc c x ha=>by
   obtain⟨v,w,z,x⟩:=x;simp only[jN.ex];by_cases hz:n=0
   ·subst hz;simp (maxSteps:=9^9) [dn.l0,Bf,E6,Ig]
   ·simp (maxSteps:=9^9) [dn.l0,Bf,E6,Ig,hz]) c1
 have hlen:=kF (iX l) n c1;have h6:=dm.ar k4 l hl 40 (j6 (iX l) n c1).2;generalize j6 (iX l) n c1=q at*;generalize mP l 40 q.2=q6 at*
 replace hr:=fun a b d=>hr ⟨a,b,0,d⟩
 by_cases hz:n=0
 ·subst hz;have hq:q.1=[]:=aZ hlen;simp[Bf,E6,Ig] at hr;simp (maxSteps:=9^9) [bl,dn.m,dn.b,aa,setAt,h1,h2,h3,h4,h5,h6,hr,hq,ab]
 ·simp[Bf,E6,Ig,hz] at hr;simp (maxSteps:=9^9) [bl,dn.m,dn.b,aa,setAt,h1,h2,h3,h4,h5,h6,hr,hlen,ab]
abbrev Am(n:Int):T:= .int .u32 n
def half(x:Int):Int:=if x%2=1 then yY .u32 (x/2) 3558460437 else x/2
def sB:Nat→Int→Int
 |0,x=>x
 |n+1,x=>sB n (half x)
def oC(x:Int)(b:UInt8):Int:=sB 8 (yY .u32 x b.toNat)
def nQ(x:Int)(l:List UInt8):Int:=l.foldl oC x
def sumOf(l:List UInt8):Int:=nQ 4294967295 l
def oR(x:Int):Prop:=0≤x∧x<4294967296
theorem sW(x y:Int):oR (yY .u32 x y):=by
 unfold yY oR;rw[wrap_u32];omega
theorem yO{x:Int}(h:oR x):oR (half x):=by
 unfold half;split
 ·exact sW _ _
 ·unfold oR at*;omega
theorem sA:∀(n:Nat) {x:Int},oR x→oR (sB n x)
 |0,_,h=>h
 |n+1,_,h=>sA n (yO h)
theorem ve:∀(l:List UInt8) {x:Int},oR x→oR (nQ x l)
 |[],_,h=>h
 |b::l,x,h=>by
  show oR (nQ (oC x b) l);exact ve l (sA 8 (sW _ _))
theorem DU(l:List UInt8):oR (sumOf l):=ve l ⟨by decide,by decide⟩
def H5(l:List UInt8)(j:Nat)(s:Nat×Int)(x:Nat):St:={t:=[(0,.c (Am s.2)),(1,.c (S l)),(5,.c (I j)),(6,.c (I s.1))],o:=[],n:=x}
theorem J2{x:Int}(h:0≤x):x.tmod 2=x%2:=Int.tmod_eq_emod_of_nonneg h
theorem J3{x:Int}(h:0≤x):x.tdiv 2=x/2:=Int.tdiv_eq_ediv_of_nonneg h
theorem cI.inner(cf:cO)(k:Nat)(l:List UInt8)(j:Nat)(x0:Int)(h0:oR x0):∀m,8<m→∃g:Nat→Nat,∀x,eG (ct cf k cI.l1) m (H5 l j (0,x0) x)=
  some (.exit 2,{t:=[(0,.c (Am (sB 8 x0))),(1,.c (S l)),(5,.c (I j)),(6,.c (I 8)),(21,.c (.bool false))],o:=[],n:=g x}):=by
 intro m hm;exact ji (f:=ct cf k cI.l1) (H5 l j) (fun s=>s.1≤8∧oR s.2) (fun s=>8-s.1) (fun s=>sB (8-s.1) s.2)
  (fun q m=>(.exit 2,{t:=[(0,.c (Am q)),(1,.c (S l)),(5,.c (I j)),(6,.c (I 8)),(21,.c (.bool false))],o:=[],n:=m}))
  (by
   rintro ⟨i,y⟩ x ⟨h1,h2⟩;simp only at h1 h2;by_cases hlt:i<8
   ·have e5:=cA (i:=i) (by omega);have e0:(i:Int)<8:=by omega
    have e1:=J2 h2.1;have e2:=J3 h2.1;have e3:IntKind.u32.wrap (y/2)=y/2:=by rw[wrap_u32];have:=h2.2;have:=h2.1;omega
    have hd:8-i=(8-(i+1))+1:=by omega
    left;obtain⟨z,hz⟩:∃z,ct cf k cI.l1 (H5 l j (i,y) x)=some (.normal,H5 l j (i+1,half y) z):=by
     by_cases c:y%2=1
     ·simp[H5,cI.l1,e0,e5,e1,e2,e3,c,half]
     ·simp[H5,cI.l1,e0,e5,e1,e2,e3,c,half]
    exact⟨(i+1,half y),z,hz,⟨hlt,yO h2⟩,by simp only;omega,by simp only[hd];rfl⟩
   ·have:i=8:=by omega
    subst this;exact .inr ⟨x+32,by simp[H5,cI.l1,sB],by simp⟩)
  m (0,x0) ⟨by simp,h0⟩ (by simp;omega)
theorem Ma{x:Int}(h:oR x):sP .u32 x 1=x%2:=by
 obtain⟨n,rfl⟩:=gB h.1;have h2:n<4294967296:=by have:=h.2;omega
 rw[uU,wrap_u32];have e1:((n:Int)%((2^IntKind.u32.bits:Nat):Int)).toNat=n:=by
  show ((n:Int)%4294967296).toNat=n;omega
 have e2:((1:Int)%((2^IntKind.u32.bits:Nat):Int)).toNat=1:=by decide
 rw[e1,e2,Nat.and_one_is_mod];omega
def Ia(l:List UInt8)(j:Nat)(s:Nat×Int)(x:Nat):St:={t:=[(0,.c (Am s.2)),(1,.c (S l)),(5,.c (I j)),(19,.c (I s.1))],o:=[],n:=x}
theorem cJ.inner(cf:cO)(k:Nat)(l:List UInt8)(j:Nat)(x0:Int)(h0:oR x0):∀m,8<m→∃g:Nat→Nat,∀x,eG (ct cf k cJ.l1) m (Ia l j (0,x0) x)=
  some (.exit 2,{t:=[(0,.c (Am (sB 8 x0))),(1,.c (S l)),(5,.c (I j)),(19,.c (I 8)),(20,.c (.bool false))],o:=[],n:=g x}):=by
 intro m hm;exact ji (f:=ct cf k cJ.l1) (Ia l j) (fun s=>s.1≤8∧oR s.2) (fun s=>8-s.1) (fun s=>sB (8-s.1) s.2)
  (fun q m=>(.exit 2,{t:=[(0,.c (Am q)),(1,.c (S l)),(5,.c (I j)),(19,.c (I 8)),(20,.c (.bool false))],o:=[],n:=m}))
  (by
   rintro ⟨i,y⟩ x ⟨h1,h2⟩;simp only at h1 h2;by_cases hlt:i<8
   ·have e5:=cA (i:=i) (by omega);have e0:(i:Int)<8:=by omega
    have e1:=Ma h2;have e2:y.fdiv 2=y/2:=Int.fdiv_eq_ediv_of_nonneg _ (by omega);have hd:8-i=(8-(i+1))+1:=by omega
    left;obtain⟨z,hz⟩:∃z,ct cf k cJ.l1 (Ia l j (i,y) x)=some (.normal,Ia l j (i+1,half y) z):=by
     by_cases c:y%2=1
     ·simp[Ia,cJ.l1,e0,e5,e1,e2,c,half,IntKind.bits]
     ·simp[Ia,cJ.l1,e0,e5,e1,e2,c,half,IntKind.bits]
    exact⟨(i+1,half y),z,hz,⟨hlt,yO h2⟩,by simp only;omega,by simp only[hd];rfl⟩
   ·have:i=8:=by omega
    subst this;exact .inr ⟨x+16,by simp[Ia,cJ.l1,sB],by simp⟩)
  m (0,x0) ⟨by simp,h0⟩ (by simp;omega)
theorem DO(b:UInt8):IntKind.u32.wrap (b.toNat:Int)=b.toNat:=by
 rw[wrap_u32];have:=b.toNat_lt;omega
def qa(l:List UInt8)(s:Nat×Int)(x:Nat):St:={t:=[(0,.c (Am s.2)),(1,.c (S l)),(5,.c (I s.1))],o:=[],n:=x}
theorem cI.ar(h:cI.k M)(l:List UInt8)(hl:l.length≤4611686018427387904)(x0:Int)(h0:oR x0):run M 248 [.c (Am x0),.c (S l)] []=some (.c (Am (nQ x0 l)),[]):=by
 refine aB (b:=cI.m) h ⟨l.length+9, ?_⟩;obtain⟨g,hr⟩:=ji (f:=ct (run M) (l.length+9) cI.l0) (qa l) (fun s=>s.1≤l.length∧oR s.2) (fun s=>l.length-s.1) (fun s=>nQ s.2 (l.drop s.1))
  (fun q m=>(.exit 0,{t:=[(0,.c (Am q)),(1,.c (S l)),(5,.c (I l.length)),(11,.c (.bool false))],o:=[],n:=m}))
  (by
   rintro ⟨i,y⟩ x ⟨h1,h2⟩;simp only at h1 h2;by_cases hlt:i<l.length
   ·have e5:=cA (i:=i) (by omega);have e6:=DO l[i];obtain⟨g1,hg⟩:=cI.inner (run M) (l.length+9) l i (yY .u32 y l[i].toNat) (sW _ _) (l.length+9) (by omega);simp[H5] at hg;left;obtain⟨z,hz⟩:∃z,ct (run M) (l.length+9) cI.l0 (qa l (i,y) x)=some (.normal,qa l (i+1,oC y l[i]) z):=by
     simp[qa,cI.l0,hlt,iz,e5,e6,hg,oC]
    refine⟨(i+1,oC y l[i]),z,hz,⟨hlt,sA 8 (sW _ _)⟩,by simp only;omega, ?_⟩;simp only[bA hlt];rfl
   ·have:i=l.length:=by omega
    subst this;exact .inr ⟨x+64,by simp[qa,cI.l0,nQ],by simp⟩)
  (l.length+9) (0,x0) ⟨Nat.zero_le _,h0⟩ (by simp)
 simp[qa] at hr;simp[bl,cI.m,cI.b,aa,hr]
theorem cJ.ar(h:cJ.k M)(l:List UInt8)(hl:l.length≤4611686018427387904)(x0:Int)(h0:oR x0):run M 249 [.c (Am x0),.c (S l)] []=some (.c (Am (nQ x0 l)),[]):=by
 refine aB (b:=cJ.m) h ⟨l.length+9, ?_⟩;obtain⟨g,hr⟩:=ji (f:=ct (run M) (l.length+9) cJ.l0) (qa l) (fun s=>s.1≤l.length∧oR s.2) (fun s=>l.length-s.1) (fun s=>nQ s.2 (l.drop s.1))
  (fun q m=>(.exit 0,{t:=[(0,.c (Am q)),(1,.c (S l)),(5,.c (I l.length)),(10,.c (.bool false))],o:=[],n:=m}))
  (by
   rintro ⟨i,y⟩ x ⟨h1,h2⟩;simp only at h1 h2;by_cases hlt:i<l.length
   ·have e5:=cA (i:=i) (by omega);have e6:=DO l[i];obtain⟨g1,hg⟩:=cJ.inner (run M) (l.length+9) l i (yY .u32 y l[i].toNat) (sW _ _) (l.length+9) (by omega);simp[Ia] at hg;left;obtain⟨z,hz⟩:∃z,ct (run M) (l.length+9) cJ.l0 (qa l (i,y) x)=some (.normal,qa l (i+1,oC y l[i]) z):=by
     simp[qa,cJ.l0,hlt,iz,e5,e6,hg,oC]
    refine⟨(i+1,oC y l[i]),z,hz,⟨hlt,sA 8 (sW _ _)⟩,by simp only;omega, ?_⟩;simp only[bA hlt];rfl
   ·have:i=l.length:=by omega
    subst this;exact .inr ⟨x+64,by simp[qa,cJ.l0,nQ],by simp⟩)
  (l.length+9) (0,x0) ⟨Nat.zero_le _,h0⟩ (by simp)
 simp[qa] at hr;simp[bl,cJ.m,cJ.b,aa,hr]
theorem iQ.ar(h:iQ.k M)(l:List UInt8)(hl:l.length≤4611686018427387904):run M 201 [.c (S l)] []=some (.c (Am (sumOf l)),[]):=by
 have h1:=cI.ar h.2 l hl 4294967295 ⟨by decide,by decide⟩;refine aB (b:=iQ.m) h.1 ⟨0, ?_⟩;simp[bl,iQ.m,iQ.b,aa,h1,sumOf]
theorem jk.ar(h:jk.k M)(l:List UInt8)(hl:l.length≤4611686018427387904):run M 203 [.c (S l)] []=some (.c (Am (sumOf l)),[]):=by
 have h1:=cJ.ar h.2 l hl 4294967295 ⟨by decide,by decide⟩;refine aB (b:=jk.m) h.1 ⟨0, ?_⟩;simp[bl,jk.m,jk.b,aa,h1,sumOf]
def byteOf(x:Int):UInt8:=UInt8.ofNat (x%256).toNat
def four(x:Int):List UInt8:=[byteOf (x/16777216),byteOf (x/65536),byteOf (x/256),byteOf x]
theorem zG(x:Int):(four x).length=4:=rfl
theorem gG.ar(h:gG.k M)(x:Int):run M 202 [.c (Am x)] []=some (.c (S (four x)),[]):=by
 refine aB (b:=gG.m) h ⟨0, ?_⟩;have e1:x.fdiv 16777216=x/16777216:=Int.fdiv_eq_ediv_of_nonneg _ (by omega);have e2:x.fdiv 65536=x/65536:=Int.fdiv_eq_ediv_of_nonneg _ (by omega);have e3:x.fdiv 256=x/256:=Int.fdiv_eq_ediv_of_nonneg _ (by omega);simp[bl,gG.m,gG.b,aa,IntKind.bits,e1,e2,e3,mC,four,byteOf,wrap_u8]
def nJ(l:List UInt8):List UInt8×Bool:=if 20000<l.length then([],false) else(l++four (sumOf l),true)
theorem ig.ar(h:ig.k M)(l:List UInt8)(hl:l.length≤4611686018427387904):run M 100 [.c (S l)] []=some (.ll [.c (S (nJ l).1),.c (.bool (nJ l).2)],[]):=by
 have h1:=iQ.ar h.2.1 l hl;have h2:=gG.ar h.2.2 (sumOf l);refine aB (b:=ig.m) h.1 ⟨0, ?_⟩;by_cases c:20000<l.length
 ·have c':20000<(l.length:Int):=by omega
  simp[bl,ig.m,ig.b,aa,nJ,c,c']
 ·have c':¬20000<(l.length:Int):=by omega
  have e:=zG (sumOf l);simp (disch:=(first|omega|(simp;done)|(simp;omega))) [bl,ig.m,ig.b,aa,nJ,c,c',h1,h2,eN]
def wc(a b c d:UInt8):Nat:=a.toNat*16777216+b.toNat*65536+c.toNat*256+d.toNat
theorem De(x:Int)(b:UInt8):byteOf x=b↔x%256=b.toNat:=by
 have hb:=b.toNat_lt;unfold byteOf;rw[←UInt8.toNat_inj];rw[UInt8.toNat_ofNat'];omega
theorem Hf{x:Int}(h:oR x)(a b c d:UInt8):four x=[a,b,c,d]↔x=wc a b c d:=by
 have ha:=a.toNat_lt;have hb:=b.toNat_lt;have hc:=c.toNat_lt;have hd:=d.toNat_lt;obtain⟨h1,h2⟩:=h;simp only[four,List.cons.injEq,and_true,De,wc];omega
theorem IM(n k d:Nat)(h:n<2^k):d*2^k|||n=d*2^k+n:=by
 have:=Nat.two_pow_add_eq_or_of_lt (i:=k) (b:=n) h d;rw[Nat.mul_comm d,←this]
theorem IN{m k d n:Nat}(hm:m=2^k)(h:n<m):d*m|||n=d*m+n:=by subst hm;exact IM n k d h
theorem HZ(a b:Nat):a*16777216+b*65536=(a*256+b)*65536:=by rw[Nat.add_mul,Nat.mul_assoc]
theorem FU(a b c:Nat):(a*256+b)*65536+c*256=(a*65536+b*256+c)*256:=by simp only[Nat.add_mul,Nat.mul_assoc]
theorem A4(l:List UInt8)(n n1 n2 n3:Nat)(a b c d:Int)(i0:n<l.length)(i1:n1<l.length)(i2:n2<l.length)(i3:n3<l.length)(ha:(l[n].toNat:Int)=a)(hb:(l[n1].toNat:Int)=b)(hc:(l[n2].toNat:Int)=c)(hd:(l[n3].toNat:Int)=d)
  (w11:IntKind.i64.wrap ((n:Int)+1)=(n1:Int)) (w12:IntKind.i64.wrap ((n:Int)+2)=(n2:Int)) (w13:IntKind.i64.wrap ((n:Int)+3)=(n3:Int)) (va:IntKind.i64.wrap a=a) (vb:IntKind.i64.wrap b=b) (vc:IntKind.i64.wrap c=c) (vd:IntKind.i64.wrap d=d)
  (y1 y2 y3 z1 z2 z3:Int) (sh1:mn .shl .i64 a 24=some (.int .i64 y1)) (sh2:mn .shl .i64 b 16=some (.int .i64 y2)) (sh3:mn .shl .i64 c 8=some (.int .i64 y3))
  (o1:DB .i64 y1 y2=z1) (o2:DB .i64 z1 y3=z2) (o3:DB .i64 z2 d=z3):
  bl (run M) 0 gD.m [.c (S l),.c (I n)] []=some (.c (I z3),[]):=by
 simp[bl,gD.m,gD.b,aa,iz,i0,i1,i2,i3,ha,hb,hc,hd,w11,w12,w13,va,vb,vc,vd,sh1,sh2,sh3,o1,o2,o3,-mn]
theorem gD.J5(h:gD.k M)(l:List UInt8)(n n1 n2 n3:Nat)(m1:n1=n+1)(m2:n2=n+2)(m3:n3=n+3)(i0:n<l.length)(i1:n1<l.length)(i2:n2<l.length)(i3:n3<l.length)(hl:l.length≤4611686018427387904):
  run M 236 [.c (S l),.c (I n)] []=some (.c (I (wc l[n] l[n1] l[n2] l[n3])),[]):=by
 refine aB (b:=gD.m) h ⟨0, ?_⟩;obtain⟨a,ha⟩:∃b,l[n]=b:=⟨_,rfl⟩
 obtain⟨b,hb⟩:∃b,l[n1]=b:=⟨_,rfl⟩
 obtain⟨c,hc⟩:∃b,l[n2]=b:=⟨_,rfl⟩
 obtain⟨d,hd⟩:∃b,l[n3]=b:=⟨_,rfl⟩
 rw[ha,hb,hc,hd];have ha':=a.toNat_lt;have hb':=b.toNat_lt;have hc':=c.toNat_lt;have hd':=d.toNat_lt;have w11:IntKind.i64.wrap ((n:Int)+1)=(n1:Int):=by rw[wrap_i64 (by omega) (by omega)];omega
 have w12:IntKind.i64.wrap ((n:Int)+2)=(n2:Int):=by rw[wrap_i64 (by omega) (by omega)];omega
 have w13:IntKind.i64.wrap ((n:Int)+3)=(n3:Int):=by rw[wrap_i64 (by omega) (by omega)];omega
 clear m1 m2 m3;have v:∀x:UInt8,IntKind.i64.wrap (x.toNat:Int)=x.toNat:=fun x=>wrap_i64 (by omega) (by have:=x.toNat_lt;omega)
 have s1:IntKind.i64.wrap ((a.toNat:Int)*16777216)=(a.toNat:Int)*16777216:=wrap_i64 (by omega) (by omega);have s2:IntKind.i64.wrap ((b.toNat:Int)*65536)=(b.toNat:Int)*65536:=wrap_i64 (by omega) (by omega);have s3:IntKind.i64.wrap ((c.toNat:Int)*256)=(c.toNat:Int)*256:=wrap_i64 (by omega) (by omega);obtain⟨z1,hz1⟩:∃z:Nat,z=a.toNat*16777216+b.toNat*65536:=⟨_,rfl⟩
 obtain⟨z2,hz2⟩:∃z:Nat,z=z1+c.toNat*256:=⟨_,rfl⟩
 obtain⟨z3,hz3⟩:∃z:Nat,z=z2+d.toNat:=⟨_,rfl⟩
 have o1:DB .i64 ((a.toNat:Int)*16777216) ((b.toNat:Int)*65536)=(z1:Int):=by
  have:=vE (a.toNat*16777216) (b.toNat*65536) (by omega) (by omega);rw[IN (m:=16777216) (k:=24) (by simp) (by omega),←hz1] at this;rw[show (a.toNat:Int)*16777216=((a.toNat*16777216:Nat):Int) by omega,show (b.toNat:Int)*65536=((b.toNat*65536:Nat):Int) by omega];exact this
 have o2:DB .i64 (z1:Int) ((c.toNat:Int)*256)=(z2:Int):=by
  have:=vE z1 (c.toNat*256) (by omega) (by omega);have e:z1=(a.toNat*256+b.toNat)*65536:=by rw[hz1];exact HZ _ _
  have e2:=IN (m:=65536) (k:=16) (d:=a.toNat*256+b.toNat) (n:=c.toNat*256) (by simp) (by omega);rw[←e,←hz2] at e2;rw[e2] at this;rw[show (c.toNat:Int)*256=((c.toNat*256:Nat):Int) by omega];exact this
 have o3:DB .i64 (z2:Int) (d.toNat:Int)=(z3:Int):=by
  have:=vE z2 d.toNat (by omega) (by omega);have e:z2=(a.toNat*65536+b.toNat*256+c.toNat)*256:=by rw[hz2,hz1,HZ];exact FU _ _ _
  have e2:=IN (m:=256) (k:=8) (d:=a.toNat*65536+b.toNat*256+c.toNat) (n:=d.toNat) (by simp) (by omega);rw[←e,←hz3] at e2;rw[e2] at this;exact this
 have hz:wc a b c d=z3:=by unfold wc;omega
 rw[hz];clear hz hz3 hz2 hz1;have sh1:mn .shl .i64 (a.toNat:Int) 24=some (.int .i64 ((a.toNat:Int)*16777216)):=by simp[IntKind.bits,s1]
 have sh2:mn .shl .i64 (b.toNat:Int) 16=some (.int .i64 ((b.toNat:Int)*65536)):=by simp[IntKind.bits,s2]
 have sh3:mn .shl .i64 (c.toNat:Int) 8=some (.int .i64 ((c.toNat:Int)*256)):=by simp[IntKind.bits,s3]
 clear s1 s2 s3;obtain⟨y1,hy1⟩:∃y:Int,y=(a.toNat:Int)*16777216:=⟨_,rfl⟩
 obtain⟨y2,hy2⟩:∃y:Int,y=(b.toNat:Int)*65536:=⟨_,rfl⟩
 obtain⟨y3,hy3⟩:∃y:Int,y=(c.toNat:Int)*256:=⟨_,rfl⟩
 rw[←hy1] at sh1 o1;rw[←hy2] at sh2 o1;rw[←hy3] at sh3 o2;clear hy1 hy2 hy3;exact A4 l n n1 n2 n3 a.toNat b.toNat c.toNat d.toNat i0 i1 i2 i3 (by rw[ha]) (by rw[hb]) (by rw[hc]) (by rw[hd]) w11 w12 w13 (v a) (v b) (v c) (v d) y1 y2 y3 z1 z2 z3 sh1 sh2 sh3 o1 o2 o3
theorem gD.ar(h:gD.k M)(l:List UInt8)(n:Nat)(hn:n+4≤l.length)(hl:l.length≤4611686018427387904):
  run M 236 [.c (S l),.c (I n)] []=some (.c (I (wc l[n] l[n+1] l[n+2] l[n+3])),[]):=
 gD.J5 h l n (n+1) (n+2) (n+3) rfl rfl rfl (by omega) (by omega) (by omega) (by omega) hl
def fR(l:List UInt8):List UInt8×Bool:=
 if 4≤l.length∧l.length≤20004∧l.drop (l.length-4)=four (sumOf (l.take (l.length-4))) then(l.take (l.length-4),true) else([],false)
theorem eI.ar(h:eI.k M)(l:List UInt8)(hl:l.length≤4611686018427387904):run M 167 [.c (S l)] []=some (.ll [.c (S (fR l).1),.c (.bool (fR l).2)],[]):=by
 have e1:IntKind.i64.wrap ((l.length:Int)-4)=(l.length:Int)-4:=wrap_i64 (by omega) (by omega);refine aB (b:=eI.m) h.1 ⟨0, ?_⟩;by_cases c1:4≤l.length;rotate_left
 ·have d1:(l.length:Int)-4<0:=by omega
  simp[bl,eI.m,eI.b,aa,e1,d1,fR,c1]
 have d1:¬(l.length:Int)-4<0:=by omega
 by_cases c2:l.length≤20004;rotate_left
 ·have d2:20000<(l.length:Int)-4:=by omega
  simp[bl,eI.m,eI.b,aa,e1,d1,d2,fR,c1,c2]
 have d2:¬20000<(l.length:Int)-4:=by omega
 have h1:=iQ.ar h.2.1 (l.take (l.length-4)) (by simp;omega);have h2:=gG.ar h.2.2 (sumOf (l.take (l.length-4)));have e2:((l.length:Int)-4).toNat=l.length-4:=by omega
 have e3:(0:Int)≤(l.length:Int)-4:=by omega
 have e3':(4:Int)≤(l.length:Int):=by omega
 have e4:l.length-4≤l.length:=by omega
 by_cases c3:l.drop (l.length-4)=four (sumOf (l.take (l.length-4)))
 ·simp[bl,eI.m,eI.b,aa,e1,d1,d2,e2,e3',e4,h1,h2,fR,c1,c2,c3]
 ·simp[bl,eI.m,eI.b,aa,e1,d1,d2,e2,e3',e4,h1,h2,fR,c1,c2,c3]
theorem C6(l:List UInt8)(n:Nat)(h:n+4=l.length):l.drop n=[l[n],l[n+1],l[n+2],l[n+3]]:=by
 apply List.ext_getElem
 ·simp;omega
 ·intro i h1 h2;simp at h2;have:i=0∨i=1∨i=2∨i=3:=by omega
  rcases this with rfl|rfl|rfl|rfl<;>simp
theorem fC.ar(h:fC.k M)(l:List UInt8)(hl:l.length≤4611686018427387904):run M 168 [.c (S l)] []=some (.ll [.c (S (fR l).1),.c (.bool (fR l).2)],[]):=by
 obtain⟨h0,k1,k2,k3⟩:=h;have e1:IntKind.i64.wrap ((l.length:Int)-4)=(l.length:Int)-4:=wrap_i64 (by omega) (by omega);have hw:=b_.ar k1 ((l.length:Int)-4) 0 20000;refine aB (b:=fC.m) h0 ⟨0, ?_⟩;by_cases c:4≤l.length∧l.length≤20004;rotate_left
 ·have hb:(decide ((0:Int)≤(l.length:Int)-4)&&decide ((l.length:Int)-4≤20000))=false:=by
   rw[Bool.eq_false_iff];intro hh;simp only[al,decide_eq_true_eq] at hh;omega
  rw[hb] at hw;have:fR l=([],false):=by unfold fR;rw[if_neg (fun q=>c ⟨q.1,q.2.1⟩)]
  simp[bl,fC.m,fC.b,aa,e1,hw,this]
 obtain⟨c1,c2⟩:=c;have hb:(decide ((0:Int)≤(l.length:Int)-4)&&decide ((l.length:Int)-4≤20000))=true:=by
  simp only[al,decide_eq_true_eq];omega
 rw[hb] at hw;have h1:=jk.ar k2 (l.take (l.length-4)) (by simp;omega);have hin:=DU (l.take (l.length-4));have h2:=gD.ar k3 l (l.length-4) (by omega) hl;rw[show ((l.length-4:Nat):Int)=(l.length:Int)-4 by omega] at h2;have hd:=C6 l (l.length-4) (by omega);have hq:=Hf hin (l[l.length-4]'(by omega)) (l[l.length-4+1]'(by omega)) (l[l.length-4+2]'(by omega)) (l[l.length-4+3]'(by omega));rw[←hd] at hq;have e2:((l.length:Int)-4).toNat=l.length-4:=by omega
 have e3:(0:Int)≤(l.length:Int)-4:=by omega
 have e3':(4:Int)≤(l.length:Int):=by omega
 have e4:l.length-4≤l.length:=by omega
 have e5:IntKind.i64.wrap (sumOf (l.take (l.length-4)))=sumOf (l.take (l.length-4)):=wrap_i64 (by have:=hin.1;omega) (by have:=hin.2;omega);unfold fR;generalize wc (l[l.length-4]'(by omega)) (l[l.length-4+1]'(by omega)) (l[l.length-4+2]'(by omega)) (l[l.length-4+3]'(by omega))=z at h2 hq;by_cases c3:l.drop (l.length-4)=four (sumOf (l.take (l.length-4)))
 ·have c4:=hq.1 c3.symm;have e6:IntKind.i64.wrap (z:Int)=z:=by rw[c4] at e5;exact e5
  rw[if_pos ⟨c1,c2,c3⟩];simp[bl,fC.m,fC.b,aa,e1,hw,e2,e3',e4,h1,h2,c4,e6]
 ·have c4:¬sumOf (l.take (l.length-4))=z:=fun q=>c3 (hq.2 q).symm
  rw[if_neg (fun q=>c3 q.2.2)];simp[bl,fC.m,fC.b,aa,e1,hw,e2,e3',e4,h1,h2,e5,c4]
theorem s7(l:List UInt8)(a:Nat):∀d k n r,mg l a d k n=some r→r.2.2=true→a<r.2.1∧r.2.1≤l.length∧kX r.1=(l.drop a).take (r.2.1-a)
 |0,k,n,r,h=>by simp[mg] at h
 |d+1,k,n,r,hr=>by
  intro hq;rw[mg] at hr;by_cases h:a+k<l.length
  ·rw[dif_pos h] at hr;split at hr
   ·simp only[aG] at hr;subst hr;split at hq
    ·rename_i hc;rw[if_pos hc];refine⟨by simp only;omega,by simp only;omega, ?_⟩;simp only;rw[hc.2];congr 1;omega
    ·cases hq
   ·exact s7 l a d (k+1) _ r hr hq
  ·rw[dif_neg h] at hr;cases hr
theorem yr(l:List UInt8)(a:Int)(h:(gM l a).2.2=true):∃m:Nat,a=m∧m<(gM l a).2.1∧(gM l a).2.1≤l.length∧(l.take (gM l a).2.1).drop m=qh (gM l a).1∧(gM l a).1.length≤20000:=by
 unfold gM at h ⊢;split at h
 ·rename_i hc;rw[if_pos hc];obtain⟨c1,c2,c3⟩:=hc;simp only;unfold fF at c1 c2 c3 ⊢;split at c1
  ·rename_i hr;rw[if_pos hr] at c2 c3 ⊢;obtain⟨m,rfl⟩:=gB hr.1;simp only[fp] at c1 c2 c3 ⊢;cases hg:mg l m 5 0 0 with
   |none=>rw[hg] at c1;cases c1
   |some r=>
    rw[hg] at c1 c2 c3;simp only[jd] at c1 c2 c3 ⊢;obtain⟨q1,q2,q3⟩:=s7 l m 5 0 0 r hg c1;refine⟨m,rfl,by omega,by omega, ?_,by simp;omega⟩;have hlen:((l.drop r.2.1).take r.1).length=r.1:=by simp;omega
    unfold qh;rw[hlen,q3,List.drop_take];have e1:r.2.1+r.1-m=(r.2.1-m)+r.1:=by omega
    rw[e1,List.take_add,List.drop_drop];congr 3;omega
  ·cases c1
 ·cases h
def mq(l:List UInt8)(c c':iC)(t:List UInt8):Prop:=c'.2=false→c.2=false∧c.1≤c'.1∧(t=[]∧c'.1=c.1∨0≤c.1∧c'.1≤l.length∧(l.take c'.1.toNat).drop c.1.toNat=t)
theorem mq.refl(l:List UInt8)(c:iC):mq l c c []:=fun h=>⟨h,Int.le_refl _,.inl ⟨rfl,rfl⟩⟩
theorem u_(l:List UInt8){m e f:Nat}(h:m≤e)(k:e≤f):(l.take e).drop m++(l.take f).drop e=(l.take f).drop m:=by
 have h1:(l.take f).take e=l.take e:=by rw[List.take_take,Nat.min_eq_left k]
 rw[←h1];generalize l.take f=x;rw[←cX e (x.drop m)];by_cases he:e≤x.length
 ·have:(x.drop m)=(x.take e).drop m++x.drop e:=by
   conv=>lhs;rw[←cX e x]
   rw[List.drop_append_of_le_length (by simp;omega)]
  rw[cX,this]
 ·rw[cX,ab (by omega),dY (by omega:x.length≤e),dZ]
theorem mq.trans{l:List UInt8}{c d e:iC}{t u:List UInt8}(h:mq l c d t)(k:mq l d e u):mq l c e (t++u):=by
 intro he;obtain⟨hd,k1,k2⟩:=k he;obtain⟨hc,h1,h2⟩:=h hd;refine⟨hc,by omega, ?_⟩;rcases h2 with⟨rfl,h2⟩|⟨h2,h3,h4⟩
 ·rcases k2 with⟨rfl,k2⟩|⟨k2,k3,k4⟩
  ·exact .inl ⟨rfl,by omega⟩
  ·right;rw[h2] at k4 k2;exact⟨k2,k3,by simpa using k4⟩
 ·right;rcases k2 with⟨rfl,k2⟩|⟨k2,k3,k4⟩
  ·rw[k2];exact⟨h2,h3,by simpa using h4⟩
  ·refine⟨h2,k3, ?_⟩;rw[←h4,←k4,u_ l (by omega) (by omega)]
theorem mq.bad{l:List UInt8}{c d:iC}{t:List UInt8}(h:mq l c d t)(hc:c.2=true):d.2=true:=by
 cases hd:d.2 with
 |true=>rfl
 |false=>rw[(h hd).1] at hc;cases hc
theorem yp(l:List UInt8)(a:Int)(h:(fF l a).2.2=true):0≤a∧(l.take (fF l a).2.1).drop a.toNat=kX (fF l a).1:=by
 obtain⟨h1,h2,h3⟩:=oh l a;have h4:=h3 h;refine⟨h4.1, ?_⟩;unfold fF at h ⊢;split at h
 ·rename_i hr;rw[if_pos hr];cases hg:mg l a.toNat 5 0 0 with
  |none=>rw[hg] at h;cases h
  |some r=>
   rw[hg] at h;simp only[jd] at h ⊢;obtain⟨q1,q2,q3⟩:=s7 l a.toNat 5 0 0 r hg h;rw[q3,List.drop_take]
 ·cases h
theorem jK(l:List UInt8)(c:iC):mq l c (cvar l c).2 (iP (cvar l c).1):=by
 intro h;unfold cvar at h ⊢;split at h
 ·cases h
 ·rename_i hn;rw[if_neg hn];rw[not_or] at hn;have h1:(fF l c.1).2.2=true:=by simpa using hn.2
  obtain⟨h2,h3,h4⟩:=oh l c.1;have h5:=h4 h1;obtain⟨h6,h7⟩:=yp l c.1 h1;refine⟨by simpa using hn.1,by simp only;omega,.inr ⟨h6,by simp only;omega, ?_⟩⟩;simp only[iP,fp];exact h7
theorem sL(l:List UInt8)(c:iC):mq l c (iL l c).2 (qh (iL l c).1):=by
 intro h;unfold iL at h ⊢;split at h
 ·cases h
 ·rename_i hn;rw[if_neg hn];rw[not_or] at hn;have h1:(gM l c.1).2.2=true:=by simpa using hn.2
  obtain⟨m,h2,h3,h4,h5,h6⟩:=yr l c.1 h1;refine⟨by simpa using hn.1,by simp only;omega,.inr ⟨by omega,by simp only;omega, ?_⟩⟩;have h7:c.1.toNat=m:=by omega
  simp only[h7,fp];exact h5
theorem sK(l:List UInt8)(c:iC):mq l c (kT l c).2 (iP (kT l c).1.1++iP (kT l c).1.2):=(jK l c).trans (jK l _)
theorem qy(l:List UInt8)(most:Int)(c:iC):mq l c (jf l most c).2 (iP (jf l most c).1):=by
 intro h;unfold jf at h ⊢;split at h
 ·cases h
 ·rename_i hn;rw[if_neg hn];exact jK l c h
theorem oz{α:Type}{l:List UInt8}{p:iC→α×iC}{t:α→List UInt8}(hp:∀c,mq l c (p c).2 (t (p c).1)):∀n c,mq l c (j6 p n c).2 (texts t (j6 p n c).1)
 |0,c=>mq.refl l c
 |n+1,c=>by
  have:=(hp c).trans (oz hp n (p c).2);simpa [j6,texts] using this
theorem qw(l:List UInt8)(most:Int)(c:iC):mq l c (mP l most c).2 (kX (mP l most c).1.length++texts iP (mP l most c).1):=by
 have h:=(qy l most c).trans (oz (jK l) (jf l most c).1.toNat (jf l most c).2);have hn:=pe l most c;unfold mP;rw[kF];exact h
theorem Bb(l:List UInt8)(c:iC):mq l c (qZ l c).2 (wW (qZ l c).1):=by
 have:=(jK l c).trans (sK l (cvar l c).2);simpa [qZ,wW,texts] using this
theorem uv(l:List UInt8)(c:iC):mq l c (iX l c).2 (oj (iX l c).1):=by
 have h1:=((jK l c).trans (jK l (cvar l c).2)).trans (oz (Bb l) 3 (cvar l (cvar l c).2).2);have:=h1.trans (sL l _);simp only[iX,oj];simpa [texts] using this
theorem zN(l:List UInt8)(c:iC):mq l c (jZ l c).2 (iP (jZ l c).1.gid++(qh (jZ l c).1.name++(iP (jZ l c).1.time++(iP (jZ l c).1.eE++iP (jZ l c).1.next)))):=by
 have h1:=(((jK l c).trans (sL l _)).trans (sK l _)).trans (jK l (kT l (iL l (cvar l c).2).2).2);simpa [jZ] using h1
theorem wC(l:List UInt8)(c:iC):mq l c (j0 l c).2 (tC (j0 l c).1):=by
 have h1:=((zN l c).trans (qy l 10 _)).trans ((oz (uv l) (jf l 10 (jZ l c).2).1.toNat (jf l 10 (jZ l c).2).2).trans (qw l 40 _));have hn:=kF (iX l) (jf l 10 (jZ l c).2).1.toNat (jf l 10 (jZ l c).2).2;simp only[tC,xf,j0,hn];simpa [qh,iP] using h1
def mf{α:Type}(p:iC→α×iC):Nat→iC→List α×iC
 |0,c=>([],c)
 |n+1,c=>if c.2=true then([],c) else((p c).1::(mf p n (p c).2).1,(mf p n (p c).2).2)
theorem kG{α:Type}{p:iC→α×iC}(hp:∀c,c.2=true→(p c).2.2=true):∀n c,c.2=true→(j6 p n c).2.2=true
 |0,c,h=>h
 |n+1,c,h=>kG hp n _ (hp c h)
theorem tu{α:Type}{p:iC→α×iC}(hp:∀c,c.2=true→(p c).2.2=true):∀n c,mf p n c=j6 p n c∨(mf p n c).2.2=true∧(j6 p n c).2.2=true
 |0,c=> .inl rfl
 |n+1,c=>by
  simp only[mf];split
  ·rename_i h;exact .inr ⟨h,kG hp (n+1) c h⟩
  ·rcases tu hp n (p c).2 with h|h
   ·left;rw[h];rfl
   ·exact .inr h
theorem qS{α:Type}{p:iC→α×iC}(n:Nat)(c:iC)(h:c.2=true):mf p n c=([],c):=by
 cases n with
 |zero=>rfl
 |succ n=>simp[mf,h]
theorem Db{α:Type}{p:iC→α×iC}(hp:∀c,c.2=true→(p c).2.2=true):∀n c,(mf p n c).2.2=false→(mf p n c).1.length=n:=by
 intro n c h;rcases tu hp n c with q|q
 ·rw[q,kF]
 ·rw[q.1] at h;cases h
theorem CA{α β γ:Type}(n:Nat)(p:iC→α×iC){f:St→Option (Out×St)}(S:Nat→List α→iC→β→St)(e:Nat)(E:List α→iC→γ→St)
  (h1:∀i,i<n→∀acc c x,acc.length=i→c.2=false→∃y,f (S i acc c x)=some (.normal,S (i+1) (acc++[(p c).1]) (p c).2 y))
  (h2:∀i,i<n→∀acc c x,acc.length=i→c.2=true→∃y,f (S i acc c x)=some (.exit e,E acc c y))
  (h3:∀acc c x,acc.length=n→∃y,f (S n acc c x)=some (.exit e,E acc c y)) (c:iC):
  ∃g:β→γ,∀x,eG f (n+1) (S 0 [] c x)=some (.exit e,E (mf p n c).1 (mf p n c).2 (g x)):=by
 have:=ji (f:=f) (fun s:Nat×List α×iC=>S s.1 s.2.1 s.2.2) (fun s=>s.1≤n∧s.2.1.length=s.1) (fun s=>n-s.1) (fun s=>(s.2.1++(mf p (n-s.1) s.2.2).1,(mf p (n-s.1) s.2.2).2)) (fun q m=>(.exit e,E q.1 q.2 m)) ?_ (n+1) (0,[],c) ⟨Nat.zero_le _,rfl⟩ (by simp)
 ·simpa using this
 rintro ⟨i,acc,c⟩ x ⟨hi,ha⟩;simp only at hi ha;by_cases hlt:i<n
 ·cases hc:c.2
  ·left;obtain⟨y,hy⟩:=h1 i hlt acc c x ha hc;refine⟨(i+1,acc++[(p c).1],(p c).2),y,hy,⟨hlt,by simp[ha]⟩,by simp only;omega, ?_⟩;simp only;rw[show n-i=(n-(i+1))+1 by omega];simp[mf,hc]
  ·right;obtain⟨y,hy⟩:=h2 i hlt acc c x ha hc;exact⟨y,by simp[hy,qS _ _ hc],by simp⟩
 ·have:i=n:=by omega
  subst this;right;obtain⟨y,hy⟩:=h3 acc c x ha;exact⟨y,by simp[hy,mf],by simp⟩
def lv(l:List UInt8)(most:Nat)(c:iC):List Int×iC:=mf (cvar l) (Min.min (cvar l c).1.toNat (most+1)) (cvar l c).2
def I_(l:List UInt8)(most n:Nat)(i:Nat)(acc:List Int)(c:iC)(x:Nat×Nat):St:={t:=[(0,.c pc),(1,.c (I most)),(5,.c (I n)),(6,.c (.row 10 x.1 0 i)),(7,.c (I i))],o:=[(0,lU 0 l c),(10,⟨x.1,1,true,false,az acc⟩)],n:=x.2}
def JQ(l:List UInt8)(most n:Nat)(acc:List Int)(c:iC)(x:Nat×Nat):St:={t:=[(0,.c pc),(1,.c (I most)),(5,.c (I n)),(6,.c (.row 10 x.1 0 acc.length)),(7,.c (I acc.length)),(25,.c (.bool false))],o:=[(0,lU 0 l c),(10,⟨x.1,1,true,false,az acc⟩)],n:=x.2}
theorem dR.ar(h:dR.k M)(l:List UInt8)(hl:l.length≤4611686018427387904)(most:Nat)(hm:most≤1000)(c:iC):
  run M 142 [.c pc,.c (I most)] [(0,lU 0 l c)]=some (.c (.sl true 1 (az (lv l most c).1)),[(0,lU 0 l (lv l most c).2)]):=by
 obtain⟨h0,k1⟩:=h;have h1:=cD.ar k1 l hl c;have hn:=nX l c;unfold lv;generalize cvar l c=q at*;obtain⟨n,c1⟩:=q;simp only at hn ⊢;obtain⟨n,rfl⟩:=gB hn.1;simp only[fp];generalize hd:Min.min n (most+1)=d;have hd1:d≤n:=by omega
 have hd2:d≤most+1:=by omega
 have hd3:d=n∨d=most+1:=by omega
 refine aB (b:=dR.m) h0 ⟨d+1, ?_⟩;obtain⟨g,hr⟩:=CA (f:=ct (run M) (d+1) dR.l0) d (cvar l) (I_ l most n) 0 (JQ l most n)
  (fun i hi acc c x ha hc=>by
   obtain⟨v,x⟩:=x;have h2:=cD.ar k1 l hl c;have e5:=cA (i:=i) (by omega);have e6:i+1≤4294967296:=by omega
   have h3:(i:Int)<n:=by omega
   have h4:(i:Int)≤most:=by omega
   have h4':i≤most:=by omega
   have h3':i<n:=by omega
   obtain⟨ca,cb⟩:=c;simp only at hc;subst hc;simp only[aE];simp (maxSteps:=9^9) [dR.l0,I_,h3,h4,h2,e5,e6,ha,az,ab])
  (fun i hi acc c x ha hc=>by
   obtain⟨v,x⟩:=x;have h3:i<n:=by omega
   have h4:i≤most:=by omega
   obtain⟨ca,cb⟩:=c;simp only at hc;subst hc;simp only[aE];simp (maxSteps:=9^9) [dR.l0,I_,JQ,h3,h4,ha])
  (fun acc c x ha=>by
   obtain⟨v,x⟩:=x;simp only[aE];rcases hd3 with h3|h3
   ·have h4:¬d<n:=by omega
    simp (maxSteps:=9^9) [dR.l0,I_,JQ,h4,ha]
   ·have h4:¬d≤most:=by omega
    by_cases h5:d<n
    ·simp (maxSteps:=9^9) [dR.l0,I_,JQ,h4,h5,ha]
    ·simp (maxSteps:=9^9) [dR.l0,I_,JQ,h5,ha]) c1
 have hlen:(mf (cvar l) d c1).1.length≤(mf (cvar l) d c1).1.length:=Nat.le_refl _;simp[I_,JQ,az] at hr;simp (maxSteps:=9^9) [bl,dR.m,dR.b,aa,h1,hr,az,ab]
theorem cD.at(h:cD.k M)(l:List UInt8)(hl:l.length≤4611686018427387904)(a:Int)(b:Bool):
  run M 139 [.c pc] [(0,⟨0,3,true,true,[[S l,I a,.bool b]]⟩)]=some (.c (I (cvar l (a,b)).1),[(0,lU 0 l (cvar l (a,b)).2)]):=cD.ar h l hl (a,b)
theorem b8.at(h:b8.k M)(l:List UInt8)(hl:l.length≤4611686018427387904)(a:Int)(b:Bool):
  run M 152 [.c pc] [(0,⟨0,3,true,true,[[S l,I a,.bool b]]⟩)]=some (.c (I (cvar l (a,b)).1),[(0,lU 0 l (cvar l (a,b)).2)]):=b8.ar h l hl (a,b)
def zp:bo:=⟨0,0,[],[]⟩
def qj(l:List UInt8)(a:Int):bo×Int×Bool:=if(iX l (a,false)).2.2=false∧iU (iX l (a,false)).1=true then((iX l (a,false)).1,(iX l (a,false)).2.1,true) else(zp,0,false)
def J6(l:List UInt8)(g u:Int)(i:Nat)(acc:List mi)(c:iC)(x:jN):St:={t:=[(4,.c (.ptr 4 x.a 0 0)),(7,.c (.ptr 14 2000096 0 0)),(8,.c (.ptr 8 x.b 0 0)),(9,.c (I i))],o:=[(4,⟨x.a,4,true,true,[rv]⟩),(8,⟨x.b,4,true,true,[[I g,I u,if i=0 then .aN 3 else .row 40 x.c 0 i,.str ⟨#[]⟩]]⟩),(14,lU 2000096 l c)]++if i=0 then [] else [(40,⟨x.c,3,true,false,acc.map aR⟩)],n:=x.d}
def LC(l:List UInt8)(g u:Int)(acc:List mi)(c:iC)(x:jN):St:={t:=[(4,.c (.ptr 4 x.a 0 0)),(7,.c (.ptr 14 2000096 0 0)),(8,.c (.ptr 8 x.b 0 0)),(9,.c (I 3)),(22,.c (.bool false))],o:=[(4,⟨x.a,4,true,true,[rv]⟩),(8,⟨x.b,4,true,true,[[I g,I u,.row 40 x.c 0 3,.str ⟨#[]⟩]]⟩),(14,lU 2000096 l c),(40,⟨x.c,3,true,false,acc.map aR⟩)],n:=x.d}
theorem df.ar(h:df.k M)(l:List UInt8)(hl:l.length≤4611686018427387904)(a:Int):
  run M 141 [.c (S l),.c (I a)] []=some (.ll [.a (iv (qj l a).1),.c (I (qj l a).2.1),.c (.bool (qj l a).2.2)],[]):=by
 obtain⟨h0,k1,k2,k3⟩:=h;have h1:=cD.at k1 l hl a false;have h2:=cD.ar k1 l hl (cvar l (a,false)).2;refine aB (b:=df.m) h0 ⟨4, ?_⟩;obtain⟨g,hr⟩:=qi (f:=ct (run M) 4 df.l0) 3 (qZ l) (J6 l (cvar l (a,false)).1 (cvar l (cvar l (a,false)).2).1) 0 (LC l (cvar l (a,false)).1 (cvar l (cvar l (a,false)).2).1)
  (fun i hi acc c x ha=>by
   obtain⟨v,w,z,x⟩:=x;have h2:=cD.ar k1 l hl c;have h3:=cD.ar k1 l hl (cvar l c).2;have h4:=cD.ar k1 l hl (cvar l (cvar l c).2).2;simp only[jN.ex];cases i with
   |zero=>
    have:acc=[]:=aZ ha;subst this;simp (maxSteps:=9^9) [df.l0,setAt,J6,h2,h3,h4,wrap_one,aR,qZ,kT]
   |succ i=>
    have e5:IntKind.i64.wrap ((i:Int)+1+1)=(i:Int)+1+1:=wrap_i64 (by omega) (by omega);have e6:i+1+1≤4294967296:=by omega
    have e7:(i:Int)+1<3:=by omega
    simp (maxSteps:=9^9) [df.l0,setAt,J6,e7,h2,h3,h4,e5,e6,ha,aR,qZ,kT,ab])
  (fun acc c x ha=>by
   obtain⟨v,w,z,x⟩:=x;simp only[jN.ex];simp (maxSteps:=9^9) [df.l0,J6,LC]) (cvar l (cvar l (a,false)).2).2
 have hlen:=kF (qZ l) 3 (cvar l (cvar l (a,false)).2).2;have h4:=fY.ar k2 l hl (j6 (qZ l) 3 (cvar l (cvar l (a,false)).2).2).2;have h5:=dI.ar k3 (iX l (a,false)).1 (by simp[iX,kF]);obtain⟨q,hq⟩:∃q,j6 (qZ l) 3 (cvar l (cvar l (a,false)).2).2=q:=⟨_,rfl⟩
 have e:iX l (a,false)=(⟨(cvar l (a,false)).1,(cvar l (cvar l (a,false)).2).1,q.1,(iL l q.2).1⟩,(iL l q.2).2):=by rw[←hq];rfl
 rw[hq] at hr hlen h4;rw[e] at h5;unfold qj;rw[e]
 replace hr:=fun a b d=>hr ⟨a,b,0,d⟩
 simp[J6,LC] at hr;simp only[ah] at h5;generalize iL l q.2=r at*;cases c1:r.2.2
 ·generalize iU _=ok at*;cases ok<;>simp (maxSteps:=9^9) [bl,df.m,df.b,aa,setAt,h1,h2,h4,h5,hr,hlen,c1,zp,ab]
 ·simp (maxSteps:=9^9) [bl,df.m,df.b,aa,setAt,h1,h2,h4,hr,c1,zp,ab]
def pd(l:List UInt8):Nat→iC→Option (List bo×iC)
 |0,c=>some ([],c)
 |d+1,c=>if(iX l c).2.2=false∧iU (iX l c).1=true then(pd l d (iX l c).2).map fun r=>((iX l c).1::r.1,r.2) else none
def xg:bz:=⟨0,[],0,0,0,[],[]⟩
def qH(l:List UInt8)(a:Int):bz×Int×Bool:=if(j0 l (a,false)).2.2=false∧fz (j0 l (a,false)).1=true then((j0 l (a,false)).1,(j0 l (a,false)).2.1,true) else(xg,0,false)
def ze(l:List UInt8)(c:iC):Option (bz×iC):=
 let h:=jZ l c
 let k:=cvar l h.2
 (pd l (Min.min k.1.toNat 11) k.2).map fun ms=>({h.1 with ae:=ms.1,gone:=(lv l 40 ms.2).1},(lv l 40 ms.2).2)
theorem od(l:List UInt8)(c:iC)(h:c.2=true):(iX l c).2.2=true:=(uv l c).bad h
theorem oc(l:List UInt8)(c:iC)(h:c.2=true):(cvar l c).2.2=true:=(jK l c).bad h
theorem tv{l:List UInt8}:∀{d:Nat} {c:iC} {r:List bo×iC},pd l d c=some r→j6 (iX l) d c=r∧(∀m∈r.1,iU m=true)∧(c.2=false→r.2.2=false)∧r.1.length=d
 |0,c,r,h=>by simp[pd] at h;subst h;simp[j6]
 |d+1,c,r,h=>by
  simp only[pd] at h;split at h
  ·rename_i hc;simp only[aj] at h;obtain⟨q,hq,rfl⟩:=h;obtain⟨h1,h2,h3,h4⟩:=tv hq;refine⟨by simp[j6,h1], ?_,fun _=>h3 hc.1,by simp[h4]⟩;intro m hm;rcases List.mem_cons.1 hm with rfl|hm
   ·exact hc.2
   ·exact h2 m hm
  ·cases h
theorem xV{l:List UInt8}:∀{d:Nat} {c:iC},pd l d c=none→(j6 (iX l) d c).2.2=true∨∃m∈(j6 (iX l) d c).1,iU m=false
 |0,c,h=>by simp[pd] at h
 |d+1,c,h=>by
  simp only[pd] at h;split at h
  ·rename_i hc;simp only[Option.map_eq_none_iff] at h;rcases xV h with h1|⟨m,h1,h2⟩
   ·exact .inl h1
   ·exact .inr ⟨m,bp _ h1,h2⟩
  ·rename_i hc;cases h1:(iX l c).2.2
   ·right;refine⟨_,bj .., ?_⟩;cases h2:iU (iX l c).1
    ·rfl
    ·exact(hc ⟨h1,h2⟩).elim
   ·left;exact kG (od l) d _ h1
theorem tD{b:bz}(h:(10<b.ae.length∨40<b.gone.length)∨∃m∈b.ae,iU m=false):fz b=false:=by
 cases hb:fz b
 ·rfl
 ·obtain⟨h1,h2,h3,h4,h5,h6,h7,h8,h9⟩:=jv hb;rcases h with (h|h)|⟨m,hm,h⟩
  ·omega
  ·omega
  ·rw[h9 m hm] at h;cases h
theorem lz(l:List UInt8)(most:Int)(c:iC)(h:c.2=true):(mP l most c).2.2=true:=(qw l most c).bad h
theorem wB(l:List UInt8)(most:Nat)(c:iC):((lv l most c).2.2=true∨most<(lv l most c).1.length)∧(mP l most c).2.2=true∨lv l most c=mP l most c:=by
 have hn:=nX l c;unfold lv mP jf;by_cases h1:(cvar l c).2.2=true
 ·left;rw[if_pos (.inr h1)];simp only[Int.toNat_zero,j6,and_true];left;rw[qS _ _ h1];exact h1
 ·by_cases h2:(most:Int)<(cvar l c).1
  ·left;rw[if_pos (.inl h2)];simp only[Int.toNat_zero,j6,and_true];rw[show Min.min (cvar l c).1.toNat (most+1)=most+1 by omega];cases h3:(mf (cvar l) (most+1) (cvar l c).2).2.2
   ·right;rw[Db (oc l) _ _ h3];omega
   ·exact .inl rfl
  ·rw[if_neg (by rw[not_or];exact⟨h2,h1⟩)];rw[show Min.min (cvar l c).1.toNat (most+1)=(cvar l c).1.toNat by omega];rcases tu (oc l) (cvar l c).1.toNat (cvar l c).2 with h|h
   ·exact .inr h
   ·exact .inl ⟨.inl h.1,h.2⟩
theorem zd{l:List UInt8}{c:iC}{r:bz×iC}(hr:ze l c=some r):j0 l c=r∨(r.2.2=true∨fz r.1=false)∧(j0 l c).2.2=true:=by
 have hn:=nX l (jZ l c).2;simp only[ze,aj] at hr;obtain⟨ms,hms,rfl⟩:=hr;obtain⟨h1,h2,h3,h4⟩:=tv hms;simp only[j0,jf];by_cases hb:(cvar l (jZ l c).2).2.2=true
 ·right;rw[if_pos (.inr hb)];have hms2:ms.2.2=true:=by rw[←h1];exact kG (od l) _ _ hb
  refine⟨.inl ?_, ?_⟩
  ·simp only[lv];rw[qS _ _ (oc l _ hms2)];exact oc l _ hms2
  ·exact lz l _ _ (kG (od l) _ _ rfl)
 ·by_cases ht:10<(cvar l (jZ l c).2).1
  ·right;rw[if_pos (.inl ht)];refine⟨.inr (tD (.inl (.inl ?_))),lz l _ _ (kG (od l) _ _ rfl)⟩;simp only[h4];omega
  ·rw[if_neg (by rw[not_or];exact⟨ht,hb⟩)];rw[show Min.min (cvar l (jZ l c).2).1.toNat 11=(cvar l (jZ l c).2).1.toNat by omega] at h1;rw[h1];rcases wB l 40 ms.2 with⟨q1,q2⟩|q
   ·right;refine⟨?_,q2⟩;rcases q1 with q1|q1
    ·exact .inl q1
    ·exact .inr (tD (.inl (.inr q1)))
   ·left;rw[q];rfl
theorem D3(l:List UInt8)(c:iC):(match ze l c with|some r=>r.2.2=false∧fz r.1=true|none=>False)↔(j0 l c).2.2=false∧fz (j0 l c).1=true:=by
 have hn:=nX l (jZ l c).2;cases hs:ze l c with
 |some r=>
  simp only;rcases zd hs with h|⟨h1,h2⟩
  ·rw[h]
  ·constructor
   ·rintro ⟨h3,h4⟩;rcases h1 with h1|h1
    ·rw[h1] at h3;cases h3
    ·rw[h1] at h4;cases h4
   ·rintro ⟨h3,_⟩;rw[h2] at h3;cases h3
 |none=>
  simp only[false_iff];rintro ⟨h3,h4⟩;simp only[ze,Option.map_eq_none_iff] at hs;have hk:=xV hs;simp only[j0,jf] at h3 h4;by_cases hb:(cvar l (jZ l c).2).2.2=true
  ·rw[if_pos (.inr hb)] at h3;rw[lz l _ _ (kG (od l) _ _ rfl)] at h3;cases h3
  ·by_cases ht:10<(cvar l (jZ l c).2).1
   ·rw[if_pos (.inl ht)] at h3;rw[lz l _ _ (kG (od l) _ _ rfl)] at h3;cases h3
   ·rw[if_neg (by rw[not_or];exact⟨ht,hb⟩)] at h3 h4;rw[show Min.min (cvar l (jZ l c).2).1.toNat 11=(cvar l (jZ l c).2).1.toNat by omega] at hk;rcases hk with hk|⟨m,hm,hk⟩
    ·rw[lz l _ _ hk] at h3;cases h3
    ·rw[tD (.inr ⟨m,hm,hk⟩)] at h4;cases h4
theorem CQ(l:List UInt8)(a:Int):qH l a=match ze l (a,false) with
  |some r=>if r.2.2=false∧fz r.1=true then(r.1,r.2.1,true) else(xg,0,false)
  |none=>(xg,0,false):=by
 have h:=D3 l (a,false);unfold qH;cases hs:ze l (a,false) with
 |none=>
  rw[hs] at h;simp only[false_iff] at h;rw[if_neg h]
 |some r=>
  rw[hs] at h;simp only at h ⊢;by_cases c:r.2.2=false∧fz r.1=true
  ·rw[if_pos c,if_pos (h.1 c)];rcases zd hs with q|⟨q1,q2⟩
   ·rw[q]
   ·rw[(h.1 c).1] at q2;cases q2
  ·rw[if_neg c,if_neg fun k=>c (h.2 k)]
def CR(b:bz)(i:Nat)(acc:List bo)(l:List UInt8)(c:iC)(x:jN):List (Nat×Ob):=[(4,⟨x.a,7,true,true,[rF]⟩),(8,⟨x.b,7,true,true,[[I b.gid,S b.name,I b.time,I b.eE,I b.next,if i=0 then .aN 4 else .row 70 x.c 0 i,.aN 1]]⟩),(17,lU 2000096 l c)]++if i=0 then [] else [(70,⟨x.c,4,true,false,acc.map ah⟩)]
def zl(l:List UInt8)(b:bz)(n i:Nat)(acc:List bo)(c:iC)(x:jN):St:={t:=[(0,.c (S l)),(4,.c (.ptr 4 x.a 0 0)),(7,.c (.ptr 17 2000096 0 0)),(8,.c (.ptr 8 x.b 0 0)),(9,.c (I n)),(10,.c (I i))],o:=CR b i acc l c x,n:=x.d}
def IL(l:List UInt8)(b:bz)(n i:Nat)(acc:List bo)(c:iC)(x:jN):St:={t:=[(0,.c (S l)),(4,.c (.ptr 4 x.a 0 0)),(7,.c (.ptr 17 2000096 0 0)),(8,.c (.ptr 8 x.b 0 0)),(9,.c (I n)),(10,.c (I i)),(50,.c (.bool false))],o:=CR b i acc l c x,n:=x.d}
def AQ(l:List UInt8)(b:bz)(n:Nat)(q:Option (List bo×iC))(m:jN×List (Nat×Ob)):Out×St:=match q with
 |none=>(.ret,{t:=[(4,.c (.ptr 4 m.1.a 0 0)),(5,.c (I 0)),(6,.c (.bool false))],o:=(4,⟨m.1.a,7,true,true,[rF]⟩)::m.2,n:=m.1.d})
 |some r=>(.exit 0,IL l b n r.1.length r.1 r.2 m.1)
theorem Eb(l:List UInt8)(b:bz)(n:Nat)(q:Option (List bo×iC))(m:jN×List (Nat×Ob)):(AQ l b n q m).1≠.normal:=by cases q<;>simp[AQ]
theorem bO.loop(k5:df.k M)(l:List UInt8)(hl:l.length≤4611686018427387904)(b:bz)(n D:Nat)(hD:Min.min n 11=D)(c:iC)(hc:0<D→c.2=false):
  ∃g:jN→jN×List (Nat×Ob),∀x,eG (ct (run M) (D+1) bO.l0) (D+1) (zl l b n 0 [] c x)=some (AQ l b n (pd l D c) (g x)):=by
 have:=ji (f:=ct (run M) (D+1) bO.l0) (fun s:Nat×List bo×iC=>zl l b n s.1 s.2.1 s.2.2) (fun s=>s.1≤D∧s.2.1.length=s.1∧(s.1<D→s.2.2.2=false)) (fun s=>D-s.1)
  (fun s=>(pd l (D-s.1) s.2.2).map fun r=>(s.2.1++r.1,r.2)) (AQ l b n) ?_ (D+1) (0,[],c) ⟨Nat.zero_le _,rfl,hc⟩ (by simp)
 ·simpa using this
 rintro ⟨i,acc,c⟩ x ⟨hi,ha,hc⟩;simp only at hi ha hc;by_cases hlt:i<D
 ·have hc:=hc hlt;obtain⟨ca,cb⟩:=c;simp only at hc;subst hc;have h2:=df.ar k5 l hl ca;have h3:i<n:=by omega
  have h4:i≤10:=by omega
  have h3':(i:Int)<n:=by omega
  have h4':(i:Int)≤10:=by omega
  have hd:D-i=(D-(i+1))+1:=by omega
  obtain⟨xa,xb,xc,xd⟩:=x;unfold qj at h2;by_cases hk:(iX l (ca,false)).2.2=false∧iU (iX l (ca,false)).1=true
  ·left;rw[if_pos hk] at h2;refine⟨(i+1,acc++[(iX l (ca,false)).1],(iX l (ca,false)).2), ?_⟩;have hcc:(iX l (ca,false)).2=((iX l (ca,false)).2.1,false):=Prod.ext rfl hk.1;have hres:(pd l (D-(i+1)) (iX l (ca,false)).2).map (fun r=>((acc++[(iX l (ca,false)).1])++r.1,r.2))=(pd l (D-i) (ca,false)).map fun r=>(acc++r.1,r.2):=by
    rw[hd,pd,if_pos hk,Option.map_map];congr 1;funext r;simp
   simp only[hres,and_true];have hrun:∃y,ct (run M) (D+1) bO.l0 (zl l b n i acc (ca,false) ⟨xa,xb,xc,xd⟩)=some (.normal,zl l b n (i+1) (acc++[(iX l (ca,false)).1]) (iX l (ca,false)).2 y):=by
    rw[hcc];generalize iX l (ca,false)=r at*;simp only[jN.ex];cases i with
    |zero=>
     have:acc=[]:=aZ ha;subst this;simp (maxSteps:=9^9) [bO.l0,setAt,zl,CR,h2,h3,wrap_one,iv,ah]
    |succ i=>
     have e5:IntKind.i64.wrap ((i:Int)+1+1)=(i:Int)+1+1:=wrap_i64 (by omega) (by omega);have e6:i+1+1≤4294967296:=by omega
     have h3':(i:Int)+1<n:=by omega
     have h4':(i:Int)+1≤10:=by omega
     simp (maxSteps:=9^9) [bO.l0,setAt,zl,CR,h3',h4',h2,e5,e6,ha,iv,ah,ab]
   obtain⟨y,hy⟩:=hrun;exact⟨y,hy,⟨hlt,by simp[ha],fun _=>hk.1⟩,by omega⟩
  ·right;rw[if_neg hk] at h2;rw[hd,pd,if_neg hk];have hrun:∃z,ct (run M) (D+1) bO.l0 (zl l b n i acc (ca,false) ⟨xa,xb,xc,xd⟩)=some (AQ l b n none z):=by
    simp only[aE,jN.ex];cases i with
    |zero=>
     have:acc=[]:=aZ ha;subst this;simp (maxSteps:=9^9) [bO.l0,setAt,zl,CR,AQ,h2,h3,zp]
    |succ i=>
     have h3':(i:Int)+1<n:=by omega
     have h4':(i:Int)+1≤10:=by omega
     simp (maxSteps:=9^9) [bO.l0,setAt,zl,CR,AQ,h3',h4',h2,zp]
   obtain⟨z,hz⟩:=hrun;exact⟨z,hz,Eb _ _ _ _ _⟩
 ·have:i=D:=by omega
  subst this;right;rw[Nat.sub_self];simp only[pd,hH,dZ];have hrun:∃z,ct (run M) (i+1) bO.l0 (zl l b n i acc c x)=some (AQ l b n (some (acc,c)) (z,[])):=by
   obtain⟨xa,xb,xc,xd⟩:=x;simp only[jN.ex];have hx:i=n∨i=11:=by omega
   rcases hx with rfl|rfl
   ·by_cases hz:i=0
    ·subst hz;simp (maxSteps:=9^9) [bO.l0,zl,IL,AQ,CR,ha]
    ·simp (maxSteps:=9^9) [bO.l0,zl,IL,AQ,CR,ha,hz]
   ·have h1:11≤n:=by omega
    by_cases h2:(11:Int)<n
    ·simp (maxSteps:=9^9) [bO.l0,zl,IL,AQ,CR,ha,h2]
    ·simp (maxSteps:=9^9) [bO.l0,zl,IL,AQ,CR,ha,h2]
  obtain⟨z,hz⟩:=hrun;exact⟨(z,[]),hz,Eb _ _ _ _ _⟩
theorem wx(l:List UInt8)(c:iC):(iL l c).1.length≤l.length:=by
 have h:(gM l c.1).1.length≤l.length:=by
  unfold gM;split
  ·simp;omega
  ·simp
 unfold iL;split
 ·simp
 ·exact h
theorem uw(l:List UInt8)(c:iC):(iX l c).1.flags.length=3:=by simp[iX,kF]
theorem wz{l:List UInt8}:∀{d:Nat} {c:iC} {r:List bo×iC},pd l d c=some r→∀m∈r.1,m.flags.length=3
 |0,c,r,h=>by simp[pd] at h;subst h;simp
 |d+1,c,r,h=>by
  simp only[pd] at h;split at h
  ·simp only[aj] at h;obtain⟨q,hq,rfl⟩:=h;intro m hm;rcases List.mem_cons.1 hm with rfl|hm
   ·exact uw l c
   ·exact wz hq m hm
  ·cases h
theorem wv{α:Type}{p:iC→α×iC}:∀n c,(mf p n c).1.length≤n
 |0,c=>by simp[mf]
 |n+1,c=>by
  simp only[mf];split
  ·simp
  ·have:=wv (p:=p) n (p c).2;simp;omega
theorem bO.ar(h:bO.k M)(l:List UInt8)(hl:l.length≤1048576)(a:Int):
  run M 52 [.c (S l),.c (I a)] []=some (.ll [.a (cd (qH l a).1),.c (I (qH l a).2.1),.c (.bool (qH l a).2.2)],[]):=by
 obtain⟨h0,k1,k2,k3,k5,k4⟩:=h;have hl2:l.length≤4611686018427387904:=by omega
 have h1:=cD.at k2 l hl2 a false;have h2:=fY.ar k3 l hl2 (cvar l (a,false)).2;have h3:=cD.ar k2 l hl2 (iL l (cvar l (a,false)).2).2;have h4:=cD.ar k2 l hl2 (cvar l (iL l (cvar l (a,false)).2).2).2;have h5:=cD.ar k2 l hl2 (cvar l (cvar l (iL l (cvar l (a,false)).2).2).2).2;rw[CQ];have e0:ze l (a,false)=(pd l (Min.min (cvar l (jZ l (a,false)).2).1.toNat 11) (cvar l (jZ l (a,false)).2).2).map fun ms=>({(jZ l (a,false)).1 with ae:=ms.1,gone:=(lv l 40 ms.2).1},(lv l 40 ms.2).2):=rfl
 rw[e0];have e1:jZ l (a,false)=(⟨(cvar l (a,false)).1,(iL l (cvar l (a,false)).2).1,(cvar l (iL l (cvar l (a,false)).2).2).1,(cvar l (cvar l (iL l (cvar l (a,false)).2).2).2).1,(cvar l (cvar l (cvar l (iL l (cvar l (a,false)).2).2).2).2).1,[],[]⟩,(cvar l (cvar l (cvar l (iL l (cvar l (a,false)).2).2).2).2).2):=rfl;rw[e1];clear e0 e1;have hname:=wx l (cvar l (a,false)).2;generalize cvar l (a,false)=q1 at*;generalize iL l q1.2=q2 at*;generalize cvar l q2.2=q3 at*;generalize cvar l q3.2=q4 at*;generalize cvar l q4.2=q5 at*;have h6:=cD.ar k2 l hl2 q5.2;have hn:=nX l q5.2;have hz:(cvar l q5.2).2.2=true→(cvar l q5.2).1=0:=by
  unfold cvar;split
  ·intro _;rfl
  ·intro h;cases h
 simp only;generalize cvar l q5.2=q6 at*;obtain⟨n,c1⟩:=q6;simp only at hn hz ⊢;obtain⟨n,rfl⟩:=gB hn.1;simp only[fp];obtain⟨D,hD⟩:∃D,Min.min n 11=D:=⟨_,rfl⟩
 refine aB (b:=bO.m) h0 ⟨D+1, ?_⟩;obtain⟨g,hr⟩:=bO.loop k5 l hl2 ⟨q1.1,q2.1,q3.1,q4.1,q5.1,[],[]⟩ n D hD c1 (fun hd=>by
  cases hc:c1.2
  ·rfl
  ·have:=hz hc;omega)
 rw[hD]
 replace hr:=fun a b d=>hr ⟨a,b,0,d⟩
 cases hq:pd l D c1 with
 |none=>
  simp only[hq] at hr;simp[zl,CR,AQ] at hr;simp only[Option.map_none];simp (maxSteps:=9^9) [bl,bO.m,bO.b,aa,setAt,h1,h2,h3,h4,h5,h6,hr,xg,az]
 |some r=>
  simp only[hq] at hr;simp only[hH];obtain⟨m1,m2,m3,m4⟩:=tv hq;have m5:=wz hq;have h7:=dR.ar k4 l hl2 40 (by omega) r.2;simp only[bR] at h7;have hgl:(lv l 40 r.2).1.length≤41:=by
   unfold lv;exact Nat.le_trans (wv _ _) (by omega)
  have h8:=bB.ar k1 ⟨q1.1,q2.1,q3.1,q4.1,q5.1,r.1,(lv l 40 r.2).1⟩ (by simp only[m4];omega) (by simp only;omega) (by simp only;omega) (fun m hm=>by rw[m5 m hm];omega);simp only[af] at h8;generalize lv l 40 r.2=w at*;generalize hbb:fz _=ok at*;by_cases hz:D=0
  ·have hr0:r.1=[]:=aZ (by omega);subst hz;simp[zl,IL,CR,AQ,hr0] at hr;simp only[hr0,ae,ints,az,bJ] at h8;cases c1:w.2.2
   ·cases ok<;>simp (maxSteps:=9^9) [bl,bO.m,bO.b,aa,setAt,h1,h2,h3,h4,h5,h6,h7,h8,hr,hr0,c1,xg,az,ab]
   ·simp (maxSteps:=9^9) [bl,bO.m,bO.b,aa,setAt,h1,h2,h3,h4,h5,h6,h7,hr,c1,xg,az,ab]
  ·have hz':¬r.1.length=0:=by omega
   have hz'':r.1≠[]:=fun e=>hz' (by rw[e];rfl)
   simp only[ae,ints,az] at h8;simp[zl,IL,CR,AQ,hz''] at hr;cases c1:w.2.2
   ·cases ok<;>simp (maxSteps:=9^9) [bl,bO.m,bO.b,aa,setAt,h1,h2,h3,h4,h5,h6,h7,h8,hr,c1,xg,az,ab]
   ·simp (maxSteps:=9^9) [bl,bO.m,bO.b,aa,setAt,h1,h2,h3,h4,h5,h6,h7,hr,c1,xg,az,ab]
theorem px{s:aT}(h:bc s=true):isVar s.eE∧isVar s.time∧s.boxes.length≤5∧s.gone.length≤20∧(∀n∈s.gone,isVar n)∧(∀b∈s.boxes,fz b=true)∧1≤s.eE∧s.eE≤2:=by
 simp only[bc,al,decide_eq_true_eq,cp,iV,kC] at h;obtain⟨⟨⟨⟨h1,h2⟩,h3⟩,h4⟩,h5⟩:=h;have hg:=oK h4;refine⟨⟨by omega,by omega⟩,⟨by omega,by omega⟩,h3,by omega,fun n hn=>⟨by have:=hg.2 n hn;omega,by have:=hg.2 n hn;omega⟩,fun b hb=> ?_,h1.1,h1.2⟩;obtain⟨i,hi,rfl⟩:=bV hb;have:=h5 i hi;rw[mR hi,nc hi] at this;simp at this;exact this.1.1.1.1.1
theorem wE{b:bz}(h:fz b=true):(tC b).length≤11000:=by
 obtain⟨v1,v2,v3,v4,v5,v6,v7,v8,v9⟩:=jv h;have:=zP h;have:=mB iP b.gone 10 fun n hn=>fv (v8 n hn)
 have:=mB oj b.ae 1000 fun m hm=>qK (v9 m hm)
 have:=lj (n:=b.gone.length) (by omega);simp only[tC,aF];omega
def nH(s:aT):List UInt8:=iP s.eE++(iP s.time++kX s.boxes.length)
def storeT(s:aT):List UInt8:=nH s++(texts tC s.boxes++(kX s.gone.length++texts iP s.gone))
def hO(s:aT):List UInt8×Bool:=if bc s=true then nJ (storeT s) else([],false)
theorem Ay{s:aT}(h:bc s=true):(nH s).length≤30:=by
 obtain⟨v1,v2,v3,v4,v5,v6,_⟩:=px h;have:=fv v1;have:=fv v2;have:=lj (n:=s.boxes.length) (by omega);simp only[nH,aF];omega
def KN(s:aT)(i:Nat)(t:List UInt8)(x:Nat×Nat):St:={t:=[(1,.c (.ptr 1 x.1 0 0)),(4,.c (S t)),(5,.c (I i))],o:=[(1,⟨x.1,4,true,true,[ai s]⟩)],n:=x.2}
def Lp(s:aT)(t:List UInt8)(x:Nat×Nat):St:={t:=[(1,.c (.ptr 1 x.1 0 0)),(4,.c (S t)),(5,.c (I s.boxes.length)),(28,.c (.bool false))],o:=[(1,⟨x.1,4,true,true,[ai s]⟩)],n:=x.2}
def F_(s:aT)(i:Nat)(t:List UInt8)(x:Nat×Nat):St:={t:=[(1,.c (.ptr 1 x.1 0 0)),(4,.c (S t)),(8,.c (I i))],o:=[(1,⟨x.1,4,true,true,[ai s]⟩)],n:=x.2}
def Iv(s:aT)(t:List UInt8)(x:Nat×Nat):St:={t:=[(1,.c (.ptr 1 x.1 0 0)),(4,.c (S t)),(8,.c (I s.gone.length)),(53,.c (.bool false))],o:=[(1,⟨x.1,4,true,true,[ai s]⟩)],n:=x.2}
theorem b9.ar(h:b9.k M)(s:aT)(hs:g_ s):run M 60 [.a (ai s)] []=some (.ll [.c (S (hO s).1),.c (.bool (hO s).2)],[]):=by
 obtain⟨h0,kb,kv,kse,ko⟩:=h;have h1:=aI.ar ko s hs;refine aB (b:=b9.m) h0 ⟨s.boxes.length+s.gone.length+1, ?_⟩;simp only[ai] at h1;unfold hO;cases c:bc s
 ·rw[c] at h1;simp (maxSteps:=9^9) [bl,b9.m,b9.b,aa,h1]
 rw[c] at h1;obtain⟨v1,v2,v3,v4,v5,v6,_⟩:=px c;have g1:=bL.int kv s.eE v1.1 (by have:=v1.2;omega);have g2:=bL.int kv s.time v2.1 (by have:=v2.2;omega);have g6:=bL.ar kv s.boxes.length (by omega);have g7:=bL.ar kv s.gone.length (by omega);have l1:=fv v1;have l2:=fv v2;have l7:=lj (n:=s.boxes.length) (by omega);have l8:=lj (n:=s.gone.length) (by omega);have l9:=mB iP s.gone 10 fun n hn=>fv (v5 n hn)
 have l10:=mB tC s.boxes 11000 fun b hb=>wE (v6 b hb)
 have hp:=Ay c;obtain⟨g,hr⟩:=oT (f:=ct (run M) (s.boxes.length+s.gone.length+1) b9.l0) s.boxes tC 11000 30 (fun b hb=>wE (v6 b hb)) (KN s) 0 (Lp s)
  (fun i hi t x ht=>by
   obtain⟨v,x⟩:=x;have e5:=cA (i:=i) (by omega);have hx:=v6 _ (ax hi);have hin:=(hs.i _ (ax hi)).ok;have h6:=c_.ar kb s.boxes[i] hin.1 hin.2.1 hin.2.2.1 hin.2.2.2;rw[if_pos hx,hx] at h6;have h7:=wE hx;simp only[af] at h6;simp only[aE];have e6:=eN t (tC s.boxes[i]) (by omega);simp (maxSteps:=9^9) [b9.l0,KN,hi,h6,e5,e6,af])
  (fun t x=>by
   obtain⟨v,x⟩:=x;simp only[aE];simp (maxSteps:=9^9) [b9.l0,KN,Lp]) (nH s) hp
 obtain⟨g',hr'⟩:=oT (f:=ct (run M) (s.boxes.length+s.gone.length+1) b9.l1) s.gone iP 10 56000 (fun n hn=>fv (v5 n hn)) (F_ s) 2 (Iv s)
  (fun i hi t x ht=>by
   obtain⟨v,x⟩:=x;have e5:=cA (i:=i) (by omega);have hx:=v5 _ (ax hi);have h6:=bL.int kv s.gone[i] hx.1 (by have:=hx.2;omega);have h7:=fv hx;simp only[aE];have e6:=eN t (iP s.gone[i]) (by omega);simp (maxSteps:=9^9) [b9.l1,F_,hi,h6,e5,e6])
  (fun t x=>by
   obtain⟨v,x⟩:=x;simp only[aE];simp (maxSteps:=9^9) [b9.l1,F_,Iv]) (nH s++texts tC s.boxes++kX s.gone.length) (by simp;omega)
 have e1:=eN (iP s.eE) (iP s.time) (by omega);have e2:=eN (iP s.eE++iP s.time) (kX s.boxes.length) (by simp;omega);have e3:nH s=iP s.eE++iP s.time++kX s.boxes.length:=by simp[nH]
 rw[←e3] at e2;have e8:=eN (nH s++texts tC s.boxes) (kX s.gone.length) (by simp;omega);have hse:=ig.ar kse (storeT s) (by simp only[storeT,aF];omega);simp only[storeT] at hse ⊢;simp only[cP] at e1 e2 e8 hse;simp[KN,Lp] at hr;simp[F_,Iv] at hr';have hr2:=fun x y=>gd (hr x y) (show s.boxes.length+1≤s.boxes.length+s.gone.length+1 by omega)
 have hr3:=fun x y=>gd (hr' x y) (show s.gone.length+1≤s.boxes.length+s.gone.length+1 by omega)
 generalize nH s=p at*;generalize texts tC s.boxes=q at*;generalize texts iP s.gone=r at*;simp (maxSteps:=9^9) [bl,b9.m,b9.b,aa,hr2,hr3,h1,g1,g2,g6,g7,e1,e2,e8,hse]
def mz(u:List UInt8)(c:iC):aT×iC:=
 let w:=cvar u c
 let t:=cvar u w.2
 let k:=jf u 5 t.2
 let bs:=j6 (j0 u) k.1.toNat k.2
 let go:=mP u 20 bs.2
 (⟨w.1,t.1,bs.1,go.1⟩,go.2)
def jW:aT:=⟨0,0,[],[]⟩
def gh(l:List UInt8):aT×Bool:=
 if(fR l).2=true∧(mz (fR l).1 (0,false)).2.2=false∧(mz (fR l).1 (0,false)).2.1=(fR l).1.length∧bc (mz (fR l).1 (0,false)).1=true
 then((mz (fR l).1 (0,false)).1,true) else(jW,false)
theorem wy{α:Type}{p:iC→α×iC}{Q:α→Prop}(h:∀c,Q (p c).1):∀n c,∀x∈(j6 p n c).1,Q x
 |0,c,x,hx=>by simp[j6] at hx
 |n+1,c,x,hx=>by
  simp only[j6] at hx;rcases List.mem_cons.1 hx with rfl|hx
  ·exact h c
  ·exact wy h n _ x hx
theorem xU(l:List UInt8)(most:Nat)(c:iC):(mP l most c).1.length≤most:=by
 have:=pe l most c;unfold mP;rw[kF];omega
structure Ae (u:List UInt8) (b:bz):Prop where
 m:b.ae.length≤10
 g:b.gone.length≤40
 n:b.name.length≤u.length
 f:∀m∈b.ae,m.flags.length=3
theorem B9(u:List UInt8)(c:iC):Ae u (j0 u c).1:=by
 have hn:=pe u 10 (jZ u c).2;refine⟨?_, ?_, ?_, ?_⟩
 ·simp only[j0,kF];omega
 ·have:=xU u 40 (j6 (iX u) (jf u 10 (jZ u c).2).1.toNat (jf u 10 (jZ u c).2).2).2;exact this
 ·exact wx u _
 ·exact wy (fun c=>uw u c) _ _
theorem Ae.is{u:List UInt8}{b:bz}(h:Ae u b)(hu:u.length≤1048576):gT b:=⟨by have:=h.m;omega,by have:=h.g;omega,by have:=h.n;omega,fun m hm=>by rw[h.f m hm];omega⟩
theorem B3{α:Type}(f:α→List Int)(k:Nat):∀(l:List α),(∀x∈l,(f x).length≤k)→(l.flatMap f).length≤l.length*k
 |[],_=>by simp
 |x::l,h=>by
  have h1:=B3 f k l fun y hy=>h y (bp _ hy)
  have h2:=h x (bj ..);have:(l.length+1)*k=l.length*k+k:=Nat.succ_mul _ _;simp only[cC,aF,b7];omega
theorem vf{u:List UInt8}{s:aT}(hu:u.length≤1048576)(h1:s.boxes.length≤10)(h2:s.gone.length≤100)(h3:∀b∈s.boxes,Ae u b):g_ s:=by
 refine⟨by omega,by omega,fun b hb=>(h3 b hb).is hu, ?_⟩;have:=B3 b5 10 s.boxes fun b hb=>by rw[i_];exact(h3 b hb).m
 omega
abbrev AP:List T:=[I 0,I 0,.aN 7,.aN 1]
def BM(w t:Int)(i:Nat)(acc:List bz)(v:Nat)(u:List UInt8)(c:iC)(x:jN):List (Nat×Ob):=[(2,⟨x.a,4,true,true,[AP]⟩),(7,⟨x.b,4,true,true,[[I w,I t,if i=0 then .aN 7 else .row 35 x.c 0 i,.aN 1]]⟩),(17,lU v u c)]++if i=0 then [] else [(35,⟨x.c,7,true,false,acc.map af⟩)]
def CM(u:List UInt8)(ok:Bool)(w t:Int)(n i:Nat)(acc:List bz)(c:iC)(x:jN):St:={t:=[(2,.c (.ptr 2 x.a 0 0)),(4,.c (S u)),(5,.c (.bool ok)),(6,.c (.ptr 17 2000176 0 0)),(7,.c (.ptr 7 x.b 0 0)),(26,.c (I n)),(27,.c (I i))],o:=BM w t i acc 2000176 u c x,n:=x.d}
def D5(u:List UInt8)(ok:Bool)(w t:Int)(n:Nat)(acc:List bz)(c:iC)(x:jN):St:={t:=[(2,.c (.ptr 2 x.a 0 0)),(4,.c (S u)),(5,.c (.bool ok)),(6,.c (.ptr 17 2000176 0 0)),(7,.c (.ptr 7 x.b 0 0)),(26,.c (I n)),(27,.c (I n)),(28,.c (.bool false))],o:=BM w t n acc 2000176 u c x,n:=x.d}
theorem bF.ar(h:bF.k M)(l:List UInt8)(hl:l.length≤1048576):
  run M 76 [.c (S l)] []=some (.ll [.a (aW (gh l).1),.c (.bool (gh l).2)],[]):=by
 obtain⟨h0,k1,k2,k3,k4,k5,k6⟩:=h;have h1:=fC.ar k4 l (by omega);have hu:(fR l).1.length≤1048576:=by unfold fR;split<;>simp;omega
 unfold gh;generalize fR l=un at*;obtain⟨u,ok⟩:=un;simp only at hu ⊢;have hu2:u.length≤4611686018427387904:=by omega
 have h2:=b8.at k3 u hu2 0 false;have h3:=b8.ar k3 u hu2 (cvar u (0,false)).2;have e0:mz u (0,false)=(⟨(cvar u (0,false)).1,(cvar u (cvar u (0,false)).2).1,(j6 (j0 u) (jf u 5 (cvar u (cvar u (0,false)).2).2).1.toNat (jf u 5 (cvar u (cvar u (0,false)).2).2).2).1,(mP u 20 (j6 (j0 u) (jf u 5 (cvar u (cvar u (0,false)).2).2).1.toNat (jf u 5 (cvar u (cvar u (0,false)).2).2).2).2).1⟩,(mP u 20 (j6 (j0 u) (jf u 5 (cvar u (cvar u (0,false)).2).2).1.toNat (jf u 5 (cvar u (cvar u (0,false)).2).2).2).2).2):=rfl;rw[e0];clear e0;generalize cvar u (0,false)=q1 at*;generalize cvar u q1.2=q2 at*;have h4:=dK.ar k5 u hu2 5 q2.2;have hn:=pe u 5 q2.2;generalize jf u 5 q2.2=q3 at*;obtain⟨n,c1⟩:=q3;simp only at hn ⊢;obtain⟨n,rfl⟩:=gB hn.1;simp only[fp];refine aB (b:=bF.m) h0 ⟨n+1, ?_⟩;obtain⟨g,hr⟩:=qi (f:=ct (run M) (n+1) bF.l0) n (j0 u) (CM u ok q1.1 q2.1 n) 0 (D5 u ok q1.1 q2.1 n)
  (fun i hi acc c x ha=>by
   obtain⟨v,w,z,x⟩:=x;have h2:=dn.ar k1 u hu2 c;simp only[jN.ex];cases i with
   |zero=>
    have:acc=[]:=aZ ha;subst this;simp (maxSteps:=9^9) [bF.l0,setAt,CM,BM,hi,h2,wrap_one,cd,af,ints]
   |succ i=>
    have e5:IntKind.i64.wrap ((i:Int)+1+1)=(i:Int)+1+1:=wrap_i64 (by omega) (by omega);have e6:i+1+1≤4294967296:=by omega
    have e7:(i:Int)+1<n:=by omega
    simp (maxSteps:=9^9) [bF.l0,setAt,CM,BM,e7,h2,e5,e6,ha,cd,af,ints,ab])
  (fun acc c x ha=>by
   obtain⟨v,w,z,x⟩:=x;simp only[jN.ex];by_cases hz:n=0
   ·subst hz;simp (maxSteps:=9^9) [bF.l0,CM,D5,BM]
   ·simp (maxSteps:=9^9) [bF.l0,CM,D5,BM,hz]) c1
 have hlen:=kF (j0 u) n c1;have hall:=wy (fun c=>B9 u c) n c1;generalize j6 (j0 u) n c1=q4 at*;have h5:=dm.ar k6 u hu2 20 q4.2;have hgl:=xU u 20 q4.2;simp only[bR] at hgl;generalize mP u 20 q4.2=q5 at*;have h6:=aJ.ar k2 ⟨q1.1,q2.1,q4.1,q5.1⟩ (vf (u:=u) hu (by simp only[hlen];omega) (by simp only;omega) hall);simp only[ai,boxes,ints,az] at h6;generalize bc _=sk at*
 replace hr:=fun a b d=>hr ⟨a,b,0,d⟩
 cases ok
 ·by_cases hz:n=0
  ·subst hz;have hq:q4.1=[]:=aZ hlen;simp[CM,D5,BM] at hr;simp (maxSteps:=9^9) [bl,bF.m,bF.b,aa,setAt,h1,h2,h3,h4,h5,hr,jW,az,ab]
  ·simp[CM,D5,BM,hz] at hr;simp (maxSteps:=9^9) [bl,bF.m,bF.b,aa,setAt,h1,h2,h3,h4,h5,hr,jW,az,ab]
 cases c2:q5.2.2;rotate_left
 ·by_cases hz:n=0
  ·subst hz;have hq:q4.1=[]:=aZ hlen;simp[CM,D5,BM] at hr;simp (maxSteps:=9^9) [bl,bF.m,bF.b,aa,setAt,h1,h2,h3,h4,h5,hr,c2,jW,az,ab]
  ·simp[CM,D5,BM,hz] at hr;simp (maxSteps:=9^9) [bl,bF.m,bF.b,aa,setAt,h1,h2,h3,h4,h5,hr,c2,jW,az,ab]
 by_cases c3:q5.2.1=(u.length:Int);rotate_left
 ·by_cases hz:n=0
  ·subst hz;have hq:q4.1=[]:=aZ hlen;simp[CM,D5,BM] at hr;simp (maxSteps:=9^9) [bl,bF.m,bF.b,aa,setAt,h1,h2,h3,h4,h5,hr,c2,c3,jW,az,ab]
  ·simp[CM,D5,BM,hz] at hr;simp (maxSteps:=9^9) [bl,bF.m,bF.b,aa,setAt,h1,h2,h3,h4,h5,hr,c2,c3,jW,az,ab]
 by_cases hz:n=0
 ·subst hz;have hq:q4.1=[]:=aZ hlen;simp only[hq,bJ] at h6;simp[CM,D5,BM] at hr;cases sk<;>simp (maxSteps:=9^9) [bl,bF.m,bF.b,aa,setAt,h1,h2,h3,h4,h5,h6,hr,hq,c2,c3,jW,az,ab]
 ·simp[CM,D5,BM,hz] at hr;cases sk<;>simp (maxSteps:=9^9) [bl,bF.m,bF.b,aa,setAt,h1,h2,h3,h4,h5,h6,hr,hlen,c2,c3,jW,az,ab]
def qz(l:List UInt8):Nat→iC→Option (List bz×iC)
 |0,c=>some ([],c)
 |d+1,c=>if(j0 l c).2.2=false∧fz (j0 l c).1=true then(qz l d (j0 l c).2).map fun r=>((j0 l c).1::r.1,r.2) else none
theorem pf(l:List UInt8)(c:iC)(h:c.2=true):(j0 l c).2.2=true:=(wC l c).bad h
theorem tw{l:List UInt8}:∀{d:Nat} {c:iC} {r:List bz×iC},qz l d c=some r→j6 (j0 l) d c=r∧(∀m∈r.1,fz m=true)∧(c.2=false→r.2.2=false)∧r.1.length=d∧∀m∈r.1,Ae l m
 |0,c,r,h=>by simp[qz] at h;subst h;simp[j6]
 |d+1,c,r,h=>by
  simp only[qz] at h;split at h
  ·rename_i hc;simp only[aj] at h;obtain⟨q,hq,rfl⟩:=h;obtain⟨h1,h2,h3,h4,h5⟩:=tw hq;refine⟨by simp[j6,h1], ?_,fun _=>h3 hc.1,by simp[h4], ?_⟩
   ·intro m hm;rcases List.mem_cons.1 hm with rfl|hm
    ·exact hc.2
    ·exact h2 m hm
   ·intro m hm;rcases List.mem_cons.1 hm with rfl|hm
    ·exact B9 l c
    ·exact h5 m hm
  ·cases h
theorem xW{l:List UInt8}:∀{d:Nat} {c:iC},qz l d c=none→(j6 (j0 l) d c).2.2=true∨∃m∈(j6 (j0 l) d c).1,fz m=false
 |0,c,h=>by simp[qz] at h
 |d+1,c,h=>by
  simp only[qz] at h;split at h
  ·rename_i hc;simp only[Option.map_eq_none_iff] at h;rcases xW h with h1|⟨m,h1,h2⟩
   ·exact .inl h1
   ·exact .inr ⟨m,bp _ h1,h2⟩
  ·rename_i hc;cases h1:(j0 l c).2.2
   ·right;refine⟨_,bj .., ?_⟩;cases h2:fz (j0 l c).1
    ·rfl
    ·exact(hc ⟨h1,h2⟩).elim
   ·left;exact kG (pf l) d _ h1
theorem qf{s:aT}(h:(5<s.boxes.length∨20<s.gone.length)∨∃b∈s.boxes,fz b=false):bc s=false:=by
 cases hb:bc s
 ·rfl
 ·obtain⟨h1,h2,h3,h4,h5,h6,_⟩:=px hb;rcases h with (h|h)|⟨m,hm,h⟩
  ·omega
  ·omega
  ·rw[h6 m hm] at h;cases h
def pB(u:List UInt8)(c:iC):Option (aT×iC):=
 let w:=cvar u c
 let t:=cvar u w.2
 let k:=cvar u t.2
 (qz u (Min.min k.1.toNat 6) k.2).map fun ms=>(⟨w.1,t.1,ms.1,(lv u 20 ms.2).1⟩,(lv u 20 ms.2).2)
theorem vl{u:List UInt8}{c:iC}{r:aT×iC}(hr:pB u c=some r):mz u c=r∨(r.2.2=true∨bc r.1=false)∧(mz u c).2.2=true:=by
 simp only[pB,aj] at hr;obtain⟨ms,hms,rfl⟩:=hr;obtain⟨h1,h2,h3,h4,h5⟩:=tw hms;have hn:=nX u (cvar u (cvar u c).2).2;simp only[mz,jf];generalize cvar u (cvar u (cvar u c).2).2=k at*;by_cases hb:k.2.2=true
 ·right;rw[if_pos (.inr hb)];have hms2:ms.2.2=true:=by rw[←h1];exact kG (pf u) _ _ hb
  refine⟨.inl ?_, ?_⟩
  ·simp only[lv];rw[qS _ _ (oc u _ hms2)];exact oc u _ hms2
  ·exact lz u _ _ (kG (pf u) _ _ rfl)
 ·by_cases ht:5<k.1
  ·right;rw[if_pos (.inl ht)];refine⟨.inr (qf (.inl (.inl ?_))),lz u _ _ (kG (pf u) _ _ rfl)⟩;simp only[h4];omega
  ·rw[if_neg (by rw[not_or];exact⟨ht,hb⟩)];rw[show Min.min k.1.toNat 6=k.1.toNat by omega] at h1;rw[h1];rcases wB u 20 ms.2 with⟨q1,q2⟩|q
   ·right;refine⟨?_,q2⟩;rcases q1 with q1|q1
    ·exact .inl q1
    ·exact .inr (qf (.inl (.inr q1)))
   ·left;rw[q];rfl
theorem y6{u:List UInt8}{c:iC}(hs:pB u c=none):¬((mz u c).2.2=false∧bc (mz u c).1=true):=by
 rintro ⟨h3,h4⟩;simp only[pB,Option.map_eq_none_iff] at hs;have hk:=xW hs;have hn:=nX u (cvar u (cvar u c).2).2;simp only[mz,jf] at h3 h4;generalize cvar u (cvar u (cvar u c).2).2=k at*;by_cases hb:k.2.2=true
 ·rw[if_pos (.inr hb)] at h3;rw[lz u _ _ (kG (pf u) _ _ rfl)] at h3;cases h3
 ·by_cases ht:5<k.1
  ·rw[if_pos (.inl ht)] at h3;rw[lz u _ _ (kG (pf u) _ _ rfl)] at h3;cases h3
  ·rw[if_neg (by rw[not_or];exact⟨ht,hb⟩)] at h3 h4;rw[show Min.min k.1.toNat 6=k.1.toNat by omega] at hk;rcases hk with hk|⟨m,hm,hk⟩
   ·rw[lz u _ _ hk] at h3;cases h3
   ·rw[qf (.inr ⟨m,hm,hk⟩)] at h4;cases h4
theorem sJ(u:List UInt8)(c:iC):mq u c (mz u c).2 (storeT (mz u c).1):=by
 have h1:=(((jK u c).trans (jK u _)).trans (qy u 5 (cvar u (cvar u c).2).2)).trans ((oz (wC u) (jf u 5 (cvar u (cvar u c).2).2).1.toNat (jf u 5 (cvar u (cvar u c).2).2).2).trans (qw u 20 _));have hn:=kF (j0 u) (jf u 5 (cvar u (cvar u c).2).2).1.toNat (jf u 5 (cvar u (cvar u c).2).2).2;simp only[storeT,nH,mz,hn];simpa [iP] using h1
theorem Ba(u:List UInt8)(c:iC)(h:c.2=true):(mz u c).2.2=true:=(sJ u c).bad h
theorem BC(n:Nat):kX n≠[]:=by
 unfold kX;simp
theorem yZ{l:List UInt8}(h:(fR l).2=true):nJ (fR l).1=(l,true):=by
 unfold fR at h ⊢;split at h
 ·rename_i hc;rw[if_pos hc];simp only[nJ];have h1:(l.take (l.length-4)).length=l.length-4:=by simp
  rw[if_neg (by omega),←hc.2.2,cX]
 ·cases h
theorem AO{a b:List UInt8}{t:List UInt8}(h:nJ a=(t,true))(k:nJ b=(t,true)):a=b:=by
 unfold nJ at h k;split at h
 ·cases h
 ·split at k
  ·cases k
  ·simp only[aS,and_true] at h k;rw[←k] at h;have hl:=congrArg List.length h;simp only[aF,zG] at hl;exact(List.append_inj h (by omega)).1
def pH(l:List UInt8):aT×Bool:=match pB (fR l).1 (0,!(fR l).2) with
 |none=>(jW,false)
 |some r=>if r.2.2=false∧(hO r.1).2=true∧(hO r.1).1=l then(r.1,true) else(jW,false)
theorem tV(l:List UInt8):pH l=gh l:=by
 unfold pH gh;have hun:= @yZ l;generalize fR l=un at*;obtain⟨u,ok⟩:=un;simp only at hun ⊢;cases ok
 ·simp only[Bool.not_false,au,false_and,if_false];cases hs:pB u (0,true) with
  |none=>rfl
  |some r=>
   simp only;rw[if_neg];rintro ⟨h1,h2,h3⟩;rcases vl hs with q|⟨q1,q2⟩
   ·have:=Ba u (0,true) rfl;rw[q,h1] at this;cases this
   ·rcases q1 with q1|q1
    ·rw[h1] at q1;cases q1
    ·simp only[hO,q1] at h2;cases h2
 ·have hun:=hun rfl;simp only[Bool.not_true,true_and];cases hs:pB u (0,false) with
  |none=>
   simp only;rw[if_neg fun k=>y6 hs ⟨k.1,k.2.2⟩]
  |some r=>
   simp only;have hsp:=sJ u (0,false);rcases vl hs with q|⟨q1,q2⟩
   ·rw[q] at hsp ⊢;have hiff:(r.2.2=false∧(hO r.1).2=true∧(hO r.1).1=l)↔(r.2.2=false∧r.2.1=(u.length:Int)∧bc r.1=true):=by
     constructor
     ·rintro ⟨h1,h2,h3⟩;have hok:bc r.1=true:=by
       cases hk:bc r.1
       ·simp only[hO,hk] at h2;cases h2
       ·rfl
      simp only[hO,hok,if_true] at h2 h3;have heq:storeT r.1=u:=AO (Prod.ext h3 h2) hun;refine⟨h1, ?_,hok⟩;obtain⟨_,hle,hx⟩:=hsp h1;simp only at hle hx;rcases hx with⟨hx,_⟩|⟨_,hx2,hx3⟩
      ·exfalso;have:kX r.1.boxes.length=[]:=by
        simp only[storeT,nH,List.append_eq_nil_iff] at hx;exact hx.1.2.2
       exact BC _ this
      ·rw[heq] at hx3;have:=congrArg List.length hx3;simp at this;omega
     ·rintro ⟨h1,h2,h3⟩;obtain⟨_,hle,hx⟩:=hsp h1;have heq:storeT r.1=u:=by
       simp only at hle hx;rcases hx with⟨hx,hx2⟩|⟨_,hx2,hx3⟩
       ·exfalso;have:kX r.1.boxes.length=[]:=by
         simp only[storeT,nH,List.append_eq_nil_iff] at hx;exact hx.1.2.2
        exact BC _ this
       ·rw[←hx3,h2];simp
      refine⟨h1, ?_, ?_⟩<;>simp[hO,h3,heq,hun]
    by_cases hc:r.2.2=false∧(hO r.1).2=true∧(hO r.1).1=l
    ·rw[if_pos hc,if_pos (hiff.1 hc)]
    ·rw[if_neg hc,if_neg fun k=>hc (hiff.2 k)]
   ·rw[if_neg,if_neg]
    ·rintro ⟨h1,_⟩;rw[q2] at h1;cases h1
    ·rintro ⟨h1,h2,h3⟩;rcases q1 with q1|q1
     ·rw[h1] at q1;cases q1
     ·simp only[hO,q1] at h2;cases h2
def CI(w t:Int)(i:Nat)(acc:List bz)(u:List UInt8)(c:iC)(x:jN):List (Nat×Ob):=[(2,⟨x.a,4,true,true,[AP]⟩),(7,⟨x.b,4,true,true,[[I w,I t,if i=0 then .aN 7 else .row 66 x.c 0 i,.aN 1]]⟩),(24,lU 2000208 u c)]++if i=0 then [] else [(66,⟨x.c,7,true,false,acc.map af⟩)]
def y7(l u:List UInt8)(w t:Int)(n i:Nat)(acc:List bz)(c:iC)(x:jN):St:={t:=[(0,.c (S l)),(2,.c (.ptr 2 x.a 0 0)),(4,.c (S u)),(6,.c (.ptr 24 2000208 0 0)),(7,.c (.ptr 7 x.b 0 0)),(8,.c (I n)),(9,.c (I i))],o:=CI w t i acc u c x,n:=x.d}
def Ix(l u:List UInt8)(w t:Int)(n i:Nat)(acc:List bz)(c:iC)(x:jN):St:={t:=[(0,.c (S l)),(2,.c (.ptr 2 x.a 0 0)),(4,.c (S u)),(6,.c (.ptr 24 2000208 0 0)),(7,.c (.ptr 7 x.b 0 0)),(8,.c (I n)),(9,.c (I i)),(46,.c (.bool false))],o:=CI w t i acc u c x,n:=x.d}
def AG(l u:List UInt8)(w t:Int)(n:Nat)(q:Option (List bz×iC))(m:jN×List (Nat×Ob)):Out×St:=match q with
 |none=>(.ret,{t:=[(2,.c (.ptr 2 m.1.a 0 0)),(3,.c (.bool false))],o:=(2,⟨m.1.a,4,true,true,[AP]⟩)::m.2,n:=m.1.d})
 |some r=>(.exit 0,Ix l u w t n r.1.length r.1 r.2 m.1)
theorem DZ(l u:List UInt8)(w t:Int)(n:Nat)(q:Option (List bz×iC))(m:jN×List (Nat×Ob)):(AG l u w t n q m).1≠.normal:=by cases q<;>simp[AG]
theorem bh.loop(k5:bO.k M)(l u:List UInt8)(hl:u.length≤1048576)(w t:Int)(n D:Nat)(hD:Min.min n 6=D)(c:iC)(hc:0<D→c.2=false):
  ∃g:jN→jN×List (Nat×Ob),∀x,eG (ct (run M) (D+1) bh.l0) (D+1) (y7 l u w t n 0 [] c x)=some (AG l u w t n (qz u D c) (g x)):=by
 have:=ji (f:=ct (run M) (D+1) bh.l0) (fun s:Nat×List bz×iC=>y7 l u w t n s.1 s.2.1 s.2.2) (fun s=>s.1≤D∧s.2.1.length=s.1∧(s.1<D→s.2.2.2=false)) (fun s=>D-s.1)
  (fun s=>(qz u (D-s.1) s.2.2).map fun r=>(s.2.1++r.1,r.2)) (AG l u w t n) ?_ (D+1) (0,[],c) ⟨Nat.zero_le _,rfl,hc⟩ (by simp)
 ·simpa using this
 rintro ⟨i,acc,c⟩ x ⟨hi,ha,hc⟩;simp only at hi ha hc;by_cases hlt:i<D
 ·have hc:=hc hlt;obtain⟨ca,cb⟩:=c;simp only at hc;subst hc;have h2:=bO.ar k5 u hl ca;have h3:i<n:=by omega
  have h4:i≤5:=by omega
  have hd:D-i=(D-(i+1))+1:=by omega
  obtain⟨xa,xb,xc,xd⟩:=x;unfold qH at h2;by_cases hk:(j0 u (ca,false)).2.2=false∧fz (j0 u (ca,false)).1=true
  ·left;rw[if_pos hk] at h2;refine⟨(i+1,acc++[(j0 u (ca,false)).1],(j0 u (ca,false)).2), ?_⟩;have hcc:(j0 u (ca,false)).2=((j0 u (ca,false)).2.1,false):=Prod.ext rfl hk.1;have hres:(qz u (D-(i+1)) (j0 u (ca,false)).2).map (fun r=>((acc++[(j0 u (ca,false)).1])++r.1,r.2))=(qz u (D-i) (ca,false)).map fun r=>(acc++r.1,r.2):=by
    rw[hd,qz,if_pos hk,Option.map_map];congr 1;funext r;simp
   simp only[hres,and_true];have hrun:∃y,ct (run M) (D+1) bh.l0 (y7 l u w t n i acc (ca,false) ⟨xa,xb,xc,xd⟩)=some (.normal,y7 l u w t n (i+1) (acc++[(j0 u (ca,false)).1]) (j0 u (ca,false)).2 y):=by
    rw[hcc];generalize j0 u (ca,false)=r at*;simp only[jN.ex];cases i with
    |zero=>
     have:acc=[]:=aZ ha;subst this;simp (maxSteps:=9^9) [bh.l0,setAt,y7,CI,h2,h3,wrap_one,cd,af,ints]
    |succ i=>
     have e5:IntKind.i64.wrap ((i:Int)+1+1)=(i:Int)+1+1:=wrap_i64 (by omega) (by omega);have e6:i+1+1≤4294967296:=by omega
     have h3':(i:Int)+1<n:=by omega
     have h4':(i:Int)+1≤5:=by omega
     simp (maxSteps:=9^9) [bh.l0,setAt,y7,CI,h3',h4',h2,e5,e6,ha,cd,af,ints,ab]
   obtain⟨y,hy⟩:=hrun;exact⟨y,hy,⟨hlt,by simp[ha],fun _=>hk.1⟩,by omega⟩
  ·right;rw[if_neg hk] at h2;rw[hd,qz,if_neg hk];have hrun:∃z,ct (run M) (D+1) bh.l0 (y7 l u w t n i acc (ca,false) ⟨xa,xb,xc,xd⟩)=some (AG l u w t n none z):=by
    simp only[aE,jN.ex];cases i with
    |zero=>
     have:acc=[]:=aZ ha;subst this;simp (maxSteps:=9^9) [bh.l0,setAt,y7,CI,AG,h2,h3,xg,az]
    |succ i=>
     have h3':(i:Int)+1<n:=by omega
     have h4':(i:Int)+1≤5:=by omega
     simp (maxSteps:=9^9) [bh.l0,setAt,y7,CI,AG,h3',h4',h2,xg,az]
   obtain⟨z,hz⟩:=hrun;exact⟨z,hz,DZ _ _ _ _ _ _ _⟩
 ·have:i=D:=by omega
  subst this;right;rw[Nat.sub_self];simp only[qz,hH,dZ];have hrun:∃z,ct (run M) (i+1) bh.l0 (y7 l u w t n i acc c x)=some (AG l u w t n (some (acc,c)) (z,[])):=by
   obtain⟨xa,xb,xc,xd⟩:=x;simp only[jN.ex];have hx:i=n∨i=6:=by omega
   rcases hx with rfl|rfl
   ·by_cases hz:i=0
    ·subst hz;simp (maxSteps:=9^9) [bh.l0,y7,Ix,AG,CI,ha]
    ·simp (maxSteps:=9^9) [bh.l0,y7,Ix,AG,CI,ha,hz]
   ·by_cases h2:(6:Int)<n
    ·simp (maxSteps:=9^9) [bh.l0,y7,Ix,AG,CI,ha,h2]
    ·simp (maxSteps:=9^9) [bh.l0,y7,Ix,AG,CI,ha,h2]
  obtain⟨z,hz⟩:=hrun;exact⟨(z,[]),hz,DZ _ _ _ _ _ _ _⟩
theorem bh.ar(h:bh.k M)(l:List UInt8)(hl:l.length≤1048576):
  run M 75 [.c (S l)] []=some (.ll [.a (aW (gh l).1),.c (.bool (gh l).2)],[]):=by
 obtain⟨h0,k5,k1,k2,k4,k3⟩:=h;rw[←tV];have h1:=eI.ar k3 l (by omega);have hu:(fR l).1.length≤1048576:=by unfold fR;split<;>simp;omega
 unfold pH;generalize fR l=un at*;obtain⟨u,ok⟩:=un;simp only at hu ⊢;have hu2:u.length≤4611686018427387904:=by omega
 have h2:=cD.at k2 u hu2 0 (!ok);have h3:=cD.ar k2 u hu2 (cvar u (0,!ok)).2;have h4:=cD.ar k2 u hu2 (cvar u (cvar u (0,!ok)).2).2;have e0:pB u (0,!ok)=(qz u (Min.min (cvar u (cvar u (cvar u (0,!ok)).2).2).1.toNat 6) (cvar u (cvar u (cvar u (0,!ok)).2).2).2).map fun ms=>(⟨(cvar u (0,!ok)).1,(cvar u (cvar u (0,!ok)).2).1,ms.1,(lv u 20 ms.2).1⟩,(lv u 20 ms.2).2):=rfl
 rw[e0];clear e0;generalize cvar u (0,!ok)=q1 at*;generalize cvar u q1.2=q2 at*;have hn:=nX u q2.2;have hz:(cvar u q2.2).2.2=true→(cvar u q2.2).1=0:=by
  unfold cvar;split
  ·intro _;rfl
  ·intro h;cases h
 generalize cvar u q2.2=q3 at*;obtain⟨n,c1⟩:=q3;simp only at hn hz ⊢;obtain⟨n,rfl⟩:=gB hn.1;simp only[fp];obtain⟨D,hD⟩:∃D,Min.min n 6=D:=⟨_,rfl⟩
 refine aB (b:=bh.m) h0 ⟨D+1, ?_⟩;obtain⟨g,hr⟩:=bh.loop k5 l u hu q1.1 q2.1 n D hD c1 (fun hd=>by
  cases hc:c1.2
  ·rfl
  ·have:=hz hc;omega)
 rw[hD]
 replace hr:=fun a b d=>hr ⟨a,b,0,d⟩
 cases hq:qz u D c1 with
 |none=>
  simp only[hq] at hr;simp[y7,CI,AG] at hr;simp only[Option.map_none];simp (maxSteps:=9^9) [bl,bh.m,bh.b,aa,setAt,h1,h2,h3,h4,hr,jW,az]
 |some r=>
  simp only[hq] at hr;simp only[hH];obtain⟨m1,m2,m3,m4,m5⟩:=tw hq;have h7:=dR.ar k4 u hu2 20 (by omega) r.2;simp only[bR] at h7;have hgl:(lv u 20 r.2).1.length≤21:=by
   unfold lv;exact Nat.le_trans (wv _ _) (by omega)
  have h8:=b9.ar k1 ⟨q1.1,q2.1,r.1,(lv u 20 r.2).1⟩ (vf (u:=u) hu (by simp only[m4];omega) (by simp only;omega) m5);simp only[ai,boxes,ints,az] at h8;generalize lv u 20 r.2=w at*;generalize hO _=st at*;obtain⟨s1,s2⟩:=st;by_cases hz:D=0
  ·have hr0:r.1=[]:=aZ (by omega);subst hz;simp[y7,Ix,CI,AG,hr0] at hr;simp only[hr0,bJ] at h8;cases c1:w.2.2
   ·cases s2
    ·simp (maxSteps:=9^9) [bl,bh.m,bh.b,aa,setAt,h1,h2,h3,h4,h7,h8,hr,c1,jW,az,ab]
    ·by_cases c3:s1=l<;>simp (maxSteps:=9^9) [bl,bh.m,bh.b,aa,setAt,h1,h2,h3,h4,h7,h8,hr,hr0,c1,c3,jW,az,ab]
   ·simp (maxSteps:=9^9) [bl,bh.m,bh.b,aa,setAt,h1,h2,h3,h4,h7,h8,hr,c1,jW,az,ab]
  ·have hz':¬r.1.length=0:=by omega
   have hz'':r.1≠[]:=fun e=>hz' (by rw[e];rfl)
   simp[y7,Ix,CI,AG,hz''] at hr;cases c1:w.2.2
   ·cases s2
    ·simp (maxSteps:=9^9) [bl,bh.m,bh.b,aa,setAt,h1,h2,h3,h4,h7,h8,hr,c1,jW,az,ab]
    ·by_cases c3:s1=l<;>simp (maxSteps:=9^9) [bl,bh.m,bh.b,aa,setAt,h1,h2,h3,h4,h7,h8,hr,c1,c3,jW,az,ab]
   ·simp (maxSteps:=9^9) [bl,bh.m,bh.b,aa,setAt,h1,h2,h3,h4,h7,h8,hr,c1,jW,az,ab]
structure jy where
 kind:Int
 box:Int
 gid:Int
 flags:Int
 text:List UInt8
abbrev cR(c:jy):List T:=[I c.kind,I c.box,I c.gid,I c.flags,S c.text]
def sY(c:jy):Bool:=if c.kind=1∨c.kind=2 then mh c.text else if c.kind=4 then decide (c.text.length≤60) else if c.kind=7 then(gh c.text).2 else decide (c.text=[])
def nK(c:jy):Bool:=jE 1 c.kind 7&&(if c.kind=7 then decide (c.box=0) else jE 1 c.box 9999)&&(if c.kind=4∨c.kind=5∨c.kind=6 then jE 1 c.gid 9999 else decide (c.gid=0))&&
 (if c.kind=4∨c.kind=5 then jE 0 c.flags 7 else decide (c.flags=0))&&sY c
theorem eO.ar(h:eO.k M)(c:jy)(hl:c.text.length≤1048576):run M 146 [.a (cR c)] []=some (.c (.bool (sY c)),[]):=by
 obtain⟨h0,k1,k2⟩:=h;have h1:=bh.ar k1 c.text hl;have h2:=dH.ar k2 c.text (by omega);refine aB (b:=eO.m) h0 ⟨0, ?_⟩;obtain⟨kind,box,gid,flags,text⟩:=c;simp only[sY] at*;simp only[aW] at h1;by_cases c1:kind=1
 ·subst c1;simp (maxSteps:=9^9) [bl,eO.m,eO.b,aa,h2]
 by_cases c2:kind=2
 ·subst c2;simp (maxSteps:=9^9) [bl,eO.m,eO.b,aa,h2]
 by_cases c4:kind=4
 ·have e60:(text.length:Int)≤60↔text.length≤60:=by omega
  subst c4;simp (maxSteps:=9^9) [bl,eO.m,eO.b,aa,e60]
 by_cases c7:kind=7
 ·subst c7;simp (maxSteps:=9^9) [bl,eO.m,eO.b,aa,setAt,h1]
 ·have e:jO .eql (bs text) {data:= #[]}=some (.bool (decide (text=[]))):=BH text [];simp (maxSteps:=9^9) [bl,eO.m,eO.b,aa,c1,c2,c4,c7,e]
theorem aX.ar(h:aX.k M)(c:jy)(hl:c.text.length≤1048576):run M 58 [.a (cR c)] []=some (.c (.bool (nK c)),[]):=by
 obtain⟨h0,k1,k2⟩:=h;have h1:=eO.ar k2 c hl;have h2:=bS.jE k1 c.kind 1 7;have h3:=bS.jE k1 c.box 1 9999;have h4:=bS.jE k1 c.gid 1 9999;have h5:=bS.jE k1 c.flags 0 7;refine aB (b:=aX.m) h0 ⟨0, ?_⟩;unfold nK;generalize sY c=tk at*;simp only[cR] at h1;obtain⟨kind,box,gid,flags,text⟩:=c;simp only at*;cases r1:jE 1 kind 7
 ·simp (maxSteps:=9^9) [bl,aX.m,aX.b,aa,h2,r1]
 have hk:kind=1∨kind=2∨kind=3∨kind=4∨kind=5∨kind=6∨kind=7:=by rw[kC] at r1;omega
 rcases hk with rfl|rfl|rfl|rfl|rfl|rfl|rfl
 ·cases r3:jE 1 box 9999
  ·simp (maxSteps:=9^9) [bl,aX.m,aX.b,aa,h2,r1,h3,r3]
  by_cases c4:gid=0;rotate_left
  ·simp (maxSteps:=9^9) [bl,aX.m,aX.b,aa,h2,r1,h3,r3,c4]
  subst c4;by_cases c5:flags=0;rotate_left
  ·simp (maxSteps:=9^9) [bl,aX.m,aX.b,aa,h2,r1,h3,r3,c5]
  subst c5;simp (maxSteps:=9^9) [bl,aX.m,aX.b,aa,h1,h2,r1,h3,r3]
 ·cases r3:jE 1 box 9999
  ·simp (maxSteps:=9^9) [bl,aX.m,aX.b,aa,h2,r1,h3,r3]
  by_cases c4:gid=0;rotate_left
  ·simp (maxSteps:=9^9) [bl,aX.m,aX.b,aa,h2,r1,h3,r3,c4]
  subst c4;by_cases c5:flags=0;rotate_left
  ·simp (maxSteps:=9^9) [bl,aX.m,aX.b,aa,h2,r1,h3,r3,c5]
  subst c5;simp (maxSteps:=9^9) [bl,aX.m,aX.b,aa,h1,h2,r1,h3,r3]
 ·cases r3:jE 1 box 9999
  ·simp (maxSteps:=9^9) [bl,aX.m,aX.b,aa,h2,r1,h3,r3]
  by_cases c4:gid=0;rotate_left
  ·simp (maxSteps:=9^9) [bl,aX.m,aX.b,aa,h2,r1,h3,r3,c4]
  subst c4;by_cases c5:flags=0;rotate_left
  ·simp (maxSteps:=9^9) [bl,aX.m,aX.b,aa,h2,r1,h3,r3,c5]
  subst c5;simp (maxSteps:=9^9) [bl,aX.m,aX.b,aa,h1,h2,r1,h3,r3]
 ·cases r3:jE 1 box 9999
  ·simp (maxSteps:=9^9) [bl,aX.m,aX.b,aa,h2,r1,h3,r3]
  cases r4:jE 1 gid 9999
  ·simp (maxSteps:=9^9) [bl,aX.m,aX.b,aa,h2,r1,h3,r3,h4,r4]
  cases r5:jE 0 flags 7
  ·simp (maxSteps:=9^9) [bl,aX.m,aX.b,aa,h2,r1,h3,r3,h4,r4,h5,r5]
  simp (maxSteps:=9^9) [bl,aX.m,aX.b,aa,h1,h2,r1,h3,r3,h4,r4,h5,r5]
 ·cases r3:jE 1 box 9999
  ·simp (maxSteps:=9^9) [bl,aX.m,aX.b,aa,h2,r1,h3,r3]
  cases r4:jE 1 gid 9999
  ·simp (maxSteps:=9^9) [bl,aX.m,aX.b,aa,h2,r1,h3,r3,h4,r4]
  cases r5:jE 0 flags 7
  ·simp (maxSteps:=9^9) [bl,aX.m,aX.b,aa,h2,r1,h3,r3,h4,r4,h5,r5]
  simp (maxSteps:=9^9) [bl,aX.m,aX.b,aa,h1,h2,r1,h3,r3,h4,r4,h5,r5]
 ·cases r3:jE 1 box 9999
  ·simp (maxSteps:=9^9) [bl,aX.m,aX.b,aa,h2,r1,h3,r3]
  cases r4:jE 1 gid 9999
  ·simp (maxSteps:=9^9) [bl,aX.m,aX.b,aa,h2,r1,h3,r3,h4,r4]
  by_cases c5:flags=0;rotate_left
  ·simp (maxSteps:=9^9) [bl,aX.m,aX.b,aa,h2,r1,h3,r3,h4,r4,c5]
  subst c5;simp (maxSteps:=9^9) [bl,aX.m,aX.b,aa,h1,h2,r1,h3,r3,h4,r4]
 ·by_cases c3:box=0;rotate_left
  ·simp (maxSteps:=9^9) [bl,aX.m,aX.b,aa,h2,r1,c3]
  subst c3;by_cases c4:gid=0;rotate_left
  ·simp (maxSteps:=9^9) [bl,aX.m,aX.b,aa,h2,r1,c4]
  subst c4;by_cases c5:flags=0;rotate_left
  ·simp (maxSteps:=9^9) [bl,aX.m,aX.b,aa,h2,r1,c5]
  subst c5;simp (maxSteps:=9^9) [bl,aX.m,aX.b,aa,h1,h2,r1]
theorem AV(text:List UInt8):(decide ((bs text).toList=ByteArray.toList {data:= #[]}))=decide (text=[]):=by
 have e:=m9 [];have e2:=m9 text;simp only[bs] at e e2;simp only[bs,e2];exact congrArg (fun x=>decide (text=x)) e
theorem aP.ar(h:aP.k M)(c:jy)(hl:c.text.length≤1048576):run M 59 [.a (cR c)] []=some (.c (.bool (nK c)),[]):=by
 obtain⟨h0,k1,k2,k3,k4⟩:=h;have h1:=bF.ar k1 c.text hl;have h2:=dP.ar k2 c.text (by omega);have h3:=fT.ar k3 c.box;have h4:=fT.ar k3 c.gid;have h5:=fw.ar k4 c.flags;refine aB (b:=aP.m) h0 ⟨0, ?_⟩;unfold nK sY;simp only[aW] at h1;obtain⟨kind,box,gid,flags,text⟩:=c;simp only at*;have e:=AV text;have e60:(text.length:Int)≤60↔text.length≤60:=by omega
 generalize gh text=rs at*;generalize mh text=nm at*;have q1:jE 1 1 7=true:=rfl;have q2:jE 1 2 7=true:=rfl;have q3:jE 1 3 7=true:=rfl;have q4:jE 1 4 7=true:=rfl;have q5:jE 1 5 7=true:=rfl;have q6:jE 1 6 7=true:=rfl;have q7:jE 1 7 7=true:=rfl;by_cases hk:kind=1∨kind=2∨kind=3∨kind=4∨kind=5∨kind=6∨kind=7;rotate_left
 ·have r1:jE 1 kind 7=false:=by
   rw[Bool.eq_false_iff];intro q;rw[kC] at q;omega
  simp only[not_or] at hk;cases r3:jE 1 box 9999<;>simp (maxSteps:=9^9) [bl,aP.m,aP.b,aa,setAt,h3,r1,r3,hk.1,hk.2.1,hk.2.2.1,hk.2.2.2.1,hk.2.2.2.2.1,hk.2.2.2.2.2.1,hk.2.2.2.2.2.2]
 cases r3:jE 1 box 9999
 ·by_cases k7:kind=7
  ·subst k7;cases b1:rs.2
   ·simp (maxSteps:=9^9) [bl,aP.m,aP.b,aa,setAt,h1,h3,r3,q7,b1]
   by_cases c3:box=0;rotate_left
   ·simp (maxSteps:=9^9) [bl,aP.m,aP.b,aa,setAt,h1,h3,r3,q7,b1,c3]
   subst c3;by_cases c4:gid=0;rotate_left
   ·simp (maxSteps:=9^9) [bl,aP.m,aP.b,aa,setAt,h1,h3,r3,q7,b1,c4]
   subst c4;by_cases c5:flags=0;rotate_left
   ·simp (maxSteps:=9^9) [bl,aP.m,aP.b,aa,setAt,h1,h3,r3,q7,b1,c5]
   subst c5;simp (maxSteps:=9^9) [bl,aP.m,aP.b,aa,setAt,h1,h3,r3,q7,b1]
  rcases hk with rfl|rfl|rfl|rfl|rfl|rfl|rfl
  ·simp (maxSteps:=9^9) [bl,aP.m,aP.b,aa,setAt,h3,r3,q1]
  ·simp (maxSteps:=9^9) [bl,aP.m,aP.b,aa,setAt,h3,r3,q2]
  ·simp (maxSteps:=9^9) [bl,aP.m,aP.b,aa,setAt,h3,r3,q3]
  ·simp (maxSteps:=9^9) [bl,aP.m,aP.b,aa,setAt,h3,r3,q4]
  ·simp (maxSteps:=9^9) [bl,aP.m,aP.b,aa,setAt,h3,r3,q5]
  ·simp (maxSteps:=9^9) [bl,aP.m,aP.b,aa,setAt,h3,r3,q6]
  ·exact absurd rfl k7
 rcases hk with rfl|rfl|rfl|rfl|rfl|rfl|rfl
 ·by_cases c4:gid=0;rotate_left
  ·simp (maxSteps:=9^9) [bl,aP.m,aP.b,aa,setAt,h3,r3,q1,c4]
  subst c4;by_cases c5:flags=0;rotate_left
  ·simp (maxSteps:=9^9) [bl,aP.m,aP.b,aa,setAt,h3,r3,q1,c5]
  subst c5;simp (maxSteps:=9^9) [bl,aP.m,aP.b,aa,setAt,h2,h3,r3,q1]
 ·by_cases c4:gid=0;rotate_left
  ·simp (maxSteps:=9^9) [bl,aP.m,aP.b,aa,setAt,h3,r3,q2,c4]
  subst c4;by_cases c5:flags=0;rotate_left
  ·simp (maxSteps:=9^9) [bl,aP.m,aP.b,aa,setAt,h3,r3,q2,c5]
  subst c5;simp (maxSteps:=9^9) [bl,aP.m,aP.b,aa,setAt,h2,h3,r3,q2]
 ·by_cases c4:gid=0;rotate_left
  ·simp (maxSteps:=9^9) [bl,aP.m,aP.b,aa,setAt,h3,r3,q3,c4]
  subst c4;by_cases c5:flags=0;rotate_left
  ·simp (maxSteps:=9^9) [bl,aP.m,aP.b,aa,setAt,h3,r3,q3,c5]
  subst c5;simp (maxSteps:=9^9) [bl,aP.m,aP.b,aa,setAt,h3,r3,q3]
 ·cases r4:jE 1 gid 9999
  ·simp (maxSteps:=9^9) [bl,aP.m,aP.b,aa,setAt,h3,h4,r3,r4,q4]
  cases r5:jE 0 flags 7
  ·simp (maxSteps:=9^9) [bl,aP.m,aP.b,aa,setAt,h3,h4,h5,r3,r4,r5,q4]
  simp (maxSteps:=9^9) [bl,aP.m,aP.b,aa,setAt,h3,h4,h5,r3,r4,r5,q4,e60]
 ·by_cases c6:text=[];rotate_left
  ·simp (maxSteps:=9^9) [bl,aP.m,aP.b,aa,setAt,h3,r3,q5,c6]
  cases r4:jE 1 gid 9999
  ·simp (maxSteps:=9^9) [bl,aP.m,aP.b,aa,setAt,h3,h4,r3,r4,q5,c6]
  cases r5:jE 0 flags 7
  ·simp (maxSteps:=9^9) [bl,aP.m,aP.b,aa,setAt,h3,h4,h5,r3,r4,r5,q5,c6]
  simp (maxSteps:=9^9) [bl,aP.m,aP.b,aa,setAt,h3,h4,h5,r3,r4,r5,q5,c6]
 ·by_cases c5:flags=0;rotate_left
  ·simp (maxSteps:=9^9) [bl,aP.m,aP.b,aa,setAt,h3,r3,q6,c5]
  subst c5;by_cases c6:text=[];rotate_left
  ·simp (maxSteps:=9^9) [bl,aP.m,aP.b,aa,setAt,h3,r3,q6,c6]
  cases r4:jE 1 gid 9999
  ·simp (maxSteps:=9^9) [bl,aP.m,aP.b,aa,setAt,h3,h4,r3,r4,q6,c6]
  simp (maxSteps:=9^9) [bl,aP.m,aP.b,aa,setAt,h3,h4,r3,r4,q6,c6]
 ·cases b1:rs.2
  ·simp (maxSteps:=9^9) [bl,aP.m,aP.b,aa,setAt,h1,h3,r3,q7,b1]
  by_cases c3:box=0
  ·subst c3;cases r3
  simp (maxSteps:=9^9) [bl,aP.m,aP.b,aa,setAt,h1,h3,r3,q7,b1,c3]
end Mx
namespace Mx
open Go
theorem yq{l:List UInt8}(h:(gh l).2=true):bc (gh l).1=true∧nJ (storeT (gh l).1)=(l,true):=by
 rw[←tV] at h ⊢;unfold pH at h ⊢;cases hs:pB (fR l).1 (0,!(fR l).2) with
 |none=>rw[hs] at h;cases h
 |some r=>
  rw[hs] at h;simp only at h ⊢;split at h
  ·rename_i hc;rw[if_pos hc];obtain⟨h1,h2,h3⟩:=hc;cases hk:bc r.1
   ·simp only[hO,hk] at h2;cases h2
   ·simp only[hO,hk,if_true] at h2 h3;exact⟨rfl,Prod.ext h3 h2⟩
  ·cases h
end Mx
