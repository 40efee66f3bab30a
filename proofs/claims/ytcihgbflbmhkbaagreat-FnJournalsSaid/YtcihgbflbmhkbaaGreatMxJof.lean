/-
  What more of the functions compute, each by a small evaluation; no condition beyond what each says.
-/
import Derived.Test.YtcihgbflbmhkbaaGreatMxJoe
set_option maxHeartbeats 16000000
set_option linter.unusedSimpArgs false
set_option linter.unusedVariables false
namespace Mx
open Go
theorem rD(need:Int→Bool):∀(l:List bp) (n:Int),(eP need n l).1.map (·.gid)=l.map (·.gid)
 |[],n=>rfl
 |m::l,n=>by
  simp only[eP];split
  ·simp[rD need l (n+1)]
  ·simp[rD need l n]
theorem nA(need:Int→Bool):∀(l:List bp) (n:Int),n≤(eP need n l).2∧(eP need n l).2≤n+l.length
 |[],n=>by simp[eP]
 |m::l,n=>by
  simp only[eP,bK];split
  ·have:=nA need l (n+1);simp only;omega
  ·have:=nA need l n;simp only;omega
theorem sr(need:Int→Bool):∀(l:List bp) (n:Int) (m:bp),m∈(eP need n l).1→
  ∃m0∈l,m0.gid=m.gid∧m.flags=m0.flags∧m.text=m0.text∧((need m.gid=true∧n≤m.uid∧m.uid<(eP need n l).2)∨(need m.gid=false∧m.uid=m0.uid))
 |[],n,m,h=>by simp[eP] at h
 |a::l,n,m,h=>by
  simp only[eP] at h ⊢;split at h
  ·rename_i c;rw[if_pos c];rcases List.mem_cons.1 h with rfl|h
   ·exact⟨a,bf ..,rfl,rfl,rfl,.inl ⟨c,by simp only;omega,by have:=(nA need l (n+1)).1;simp only;omega⟩⟩
   ·obtain⟨m0,h1,h2,h3,h4,h5⟩:=sr need l (n+1) m h;exact⟨m0,bo _ h1,h2,h3,h4,h5.imp (fun q=>⟨q.1,by omega,q.2.2⟩) id⟩
  ·rename_i c;rw[if_neg c];rcases List.mem_cons.1 h with rfl|h
   ·exact⟨m,bf ..,rfl,rfl,rfl,.inr ⟨by simpa using c,rfl⟩⟩
   ·obtain⟨m0,h1,h2,h3,h4,h5⟩:=sr need l n m h;exact⟨m0,bo _ h1,h2,h3,h4,h5⟩
def stay(a b:bA):List Int:=(aR (fD a.ae) (fD b.ae)).filter fun g=> !decide (g∈aR a.gone b.gone)
theorem F5{a b:bA}{g:Int}:g∈stay a b↔(g∈fD a.ae∨g∈fD b.ae)∧¬(g∈a.gone∨g∈b.gone):=by
 simp[stay,fN,je]
theorem uo{a b:bA}(ha:(fD a.ae).Nodup)(hb:(fD b.ae).Nodup):
  (jx a b).1.Perm (eP (jv a b) (Max.max a.next b.next) ((stay a b).map (nC a.ae b.ae))).1:=by
 rw[←qj ha hb];simp only[o9];rw[F7 ha hb];exact oN _
theorem Am{a b:bA}(ha:(fD a.ae).Nodup)(hb:(fD b.ae).Nodup):(fD (jx a b).1).Perm (stay a b):=by
 have h:=(uo ha hb).map (fun m:bp=>m.gid);rw[rD] at h;refine h.trans (List.Perm.of_eq ?_);rw[List.map_map];have:∀l:List Int,(∀g∈l,g∈fD a.ae∨g∈fD b.ae)→l.map ((fun m:bp=>m.gid)∘nC a.ae b.ae)=l:=by
  intro l hl
  induction l with
  |nil=>rfl
  |cons g l ih=>
   rw[bq,ih fun g hg=>hl g (bo _ hg)];simp only[Function.comp];rw[qk (hl g (bf ..))]
 exact this _ fun g hg=>(F5.1 hg).1
theorem Good.nd{b:bA}(h:Good b):(Mx.fD b.ae).Nodup:=List.pairwise_map.2 h.fD
theorem oK{l:List bp}{g:Int}:gg l g=none↔jW l g=none:=by rw[pB,oO]
theorem mG{l:List bp}{g:Int}{k:Nat}(h:gg l g=some k):∃hk:k<l.length,jW l g=some l[k]:=by
 obtain⟨h1,h2,h3⟩:=nP h;refine⟨h1, ?_⟩;unfold jW;rw[List.find?_eq_some_iff_getElem];exact⟨by simp[h2],k,h1,rfl,fun j hj=>by simpa using h3 j hj⟩
theorem Bm{a b:bA}(ha:(fD a.ae).Nodup)(hb:(fD b.ae).Nodup):a.next≤(jx a b).2∧b.next≤(jx a b).2:=by
 rw[←qj ha hb];simp only[o9];have:=(nA (jv a b) (fv (·.gid) ((allM a.ae b.ae).filter fun m=> !decide (m.gid∈aR a.gone b.gone))) (Max.max a.next b.next)).1;omega
end Mx
namespace Mx
open Go
variable {M:Nat→Option Body}
theorem hZ.al(h:hZ.k M)(m:bp)(G:List Int)(hG:G.length≤4194304):run M 454 [.a (ah m),.c (.vp [ints G] 0)] []=some (.c (.bool (decide (m.gid∈G))),[]):=by
 have h1:=aI.al h.2 G m.gid (by omega);refine aA (b:=hZ.m) h.1 ⟨0, ?_⟩;simp only[ints] at h1 ⊢;generalize az G=g at*;simp (maxSteps:=9^9) [ba,hZ.m,hZ.b,ab,h1,ah]
def firstM(a b:List bp):List bp:=a.map fun m=>match jW b m.gid with|some y=>iQ m y|none=>m
theorem q9(a b:List bp):(firstM a b).length=a.length:=by simp[firstM]
def Bo(u2 u3:Nat)(a b:bA)(v:Nat)(rows:List (List T)):List (Nat×Ob):=[(2,⟨u2,7,true,true,[af a]⟩),(3,⟨u3,7,true,true,[af b]⟩),(16,⟨v,4,true,false,rows⟩)]
structure Kx where
 i:Nat
 v:Nat
 n:Nat
def Jl(u2 u3:Nat)(a b:bA)(s:Kx):St:={t:=[(2,.c (.ptr 2 u2 0 0)),(3,.c (.ptr 3 u3 0 0)),(6,.c (.row 16 s.v 0 s.i)),(18,.c (ae a.ae)),(19,.c (I a.ae.length)),(20,.c (I s.i))],o:=Bo u2 u3 a b s.v (((firstM a.ae b.ae).take s.i).map ah),n:=s.n}
def M0(u2 u3:Nat)(a b:bA)(s:Kx):St:={t:=[(2,.c (.ptr 2 u2 0 0)),(3,.c (.ptr 3 u3 0 0)),(6,.c (.row 16 s.v 0 s.i)),(18,.c (ae a.ae)),(19,.c (I a.ae.length)),(20,.c (I s.i)),(21,.c (.bool false))],o:=Bo u2 u3 a b s.v (((firstM a.ae b.ae).take s.i).map ah),n:=s.n}
structure LR (M:Nat→Option Body):Prop where
 holds:jq.k M
 keeps:dU.k M
 gone:fM.k M
 at_:cK.k M
 copy:eR.k M
 join:fL.k M
 del:aD.k M
 c1:hZ.k M
 sort:aV.k M
 c2:hQ.k M
 c3:hO.k M
theorem Jj(K:LR M)(k u2 u3:Nat)(a b:bA)(ha:iL a)(hb:iL b)(s:Kx)(hs:s.i<a.ae.length):
  ∃v' n',ct (run M) k b7.l0 (Jl u2 u3 a b s)=some (.normal,Jl u2 u3 a b ⟨s.i+1,v',n'⟩):=by
 obtain⟨i,v,n⟩:=s;simp only at hs;have hm:=ha.m;have h1:=cK.al K.at_ b a.ae[i].gid hb.m;have e5:=cA (i:=i) (by omega);have e6:i+1≤4294967296:=by omega
 have hl:=q9 a.ae b.ae;have e7:(((firstM a.ae b.ae).take i).map ah).length=i:=by simp[hl];omega
 have e9:(a.ae.map ah).length=a.ae.length:=by simp
 have e8:((firstM a.ae b.ae).take (i+1)).map ah=((firstM a.ae b.ae).take i).map ah++[ah (firstM a.ae b.ae)[i]]:=by
  rw[iA _ _ (by rw[hl];exact hs),cg];rfl
 have a1:∀hh,(a.ae.map ah)[i]'hh=ah a.ae[i]:=by intro hh;simp
 cases hq:gg b.ae a.ae[i].gid with
 |none=>
  rw[hq] at h1;have h2:=eR.al K.copy a.ae[i] (ha.f _ (aq hs));have ef:(firstM a.ae b.ae)[i]'(by rw[hl];exact hs)=a.ae[i]:=by
   simp only[firstM,f_,oK.1 hq]
  rw[ef] at e8;simp only[Jl,Bo,e8];simp only[af,ae,ints,dO,ah,jg,jM] at h1 h2 a1 ⊢;generalize List.map ah ((firstM a.ae b.ae).take i)=rr at*;generalize a.ae.map ah=ra at*;generalize b.ae.map ah=rb at*;generalize az a.gone=ga at*;generalize az b.gone=gb at*;generalize a.ae[i].flags.map aS=rf at*;simp (maxSteps:=9^9) [b7.l0,ab,setAt,h1,h2,hs,e5,e6,e7,e9,a1,aa]
 |some q=>
  rw[hq] at h1;obtain⟨hq1,hq2⟩:=mG hq;have hf1:=ha.f _ (aq hs);have h3:=fL.al K.join a.ae[i] b.ae[q] hf1 (hb.f _ (aq hq1));have h2:=eR.al K.copy (iQ a.ae[i] b.ae[q]) (Nat.le_trans (rV _ _) hf1);have ef:(firstM a.ae b.ae)[i]'(by rw[hl];exact hs)=iQ a.ae[i] b.ae[q]:=by
   simp only[firstM,f_,hq2]
  rw[ef] at e8;have e10:(b.ae.map ah).length=b.ae.length:=by simp
  have a2:∀hh,(b.ae.map ah)[q]'hh=ah b.ae[q]:=by intro hh;simp
  simp only[Jl,Bo,e8];simp only[af,ae,ints,dO,ah,jg,jM] at h1 h2 h3 a1 a2 ⊢;generalize List.map ah ((firstM a.ae b.ae).take i)=rr at*;generalize a.ae.map ah=ra at*;generalize b.ae.map ah=rb at*;generalize az a.gone=ga at*;generalize az b.gone=gb at*;generalize a.ae[i].flags.map aS=rf at*;generalize b.ae[q].flags.map aS=rg at*;generalize (iQ a.ae[i] b.ae[q]).flags.map aS=rj at*;simp (maxSteps:=9^9) [b7.l0,ab,setAt,h1,h2,h3,hs,hq1,e5,e6,e7,e9,e10,a1,a2,aa]
theorem Li(k u2 u3:Nat)(a b:bA)(s:Kx)(hs:¬s.i<a.ae.length):
  ∃n',ct (run M) k b7.l0 (Jl u2 u3 a b s)=some (.exit 0,M0 u2 u3 a b ⟨s.i,s.v,n'⟩):=by
 obtain⟨i,v,n⟩:=s;simp only at hs;simp only[Jl,M0,Bo];generalize List.map ah ((firstM a.ae b.ae).take i)=rr at*;simp only[af,ae,ints];generalize a.ae.map ah=ra at*;generalize b.ae.map ah=rb at*;simp (maxSteps:=9^9) [b7.l0,ab,hs]
theorem Ax(a:bA)(g:Int):holds a g= !(jW a.ae g).isNone:=by
 unfold holds;cases q:gg a.ae g with
 |none=>rw[oK.1 q];rfl
 |some k=>
  obtain⟨_,h⟩:=mG q;rw[h];exact decide_eq_true (Int.natCast_nonneg k)
def pU(a b:List bp)(i:Nat):List bp:=firstM a b++(b.take i).filter fun m=>(jW a m.gid).isNone
theorem FV(a b:List bp):pU a b b.length=allM a b:=by
 unfold pU allM firstM;rw[List.take_length]
 all_goals (congr 1)
theorem Er(a b:List bp):pU a b 0=firstM a b:=by simp[pU]
theorem FU(a b:List bp)(i:Nat)(hi:i≤b.length):(pU a b i).length≤a.length+i:=by
 have:=bP (fun m:bp=>(jW a m.gid).isNone) (b.take i);simp only[pU,ax,q9];simp at this;omega
def Ji(u2 u3:Nat)(a b:bA)(s:Kx):St:={t:=[(2,.c (.ptr 2 u2 0 0)),(3,.c (.ptr 3 u3 0 0)),(6,.c (.row 16 s.v 0 (pU a.ae b.ae s.i).length)),(44,.c (ae b.ae)),(45,.c (I b.ae.length)),(46,.c (I s.i))],o:=Bo u2 u3 a b s.v ((pU a.ae b.ae s.i).map ah),n:=s.n}
def MZ(u2 u3:Nat)(a b:bA)(s:Kx):St:={t:=[(2,.c (.ptr 2 u2 0 0)),(3,.c (.ptr 3 u3 0 0)),(6,.c (.row 16 s.v 0 (pU a.ae b.ae s.i).length)),(44,.c (ae b.ae)),(45,.c (I b.ae.length)),(46,.c (I s.i)),(47,.c (.bool false))],o:=Bo u2 u3 a b s.v ((pU a.ae b.ae s.i).map ah),n:=s.n}
theorem Jg(K:LR M)(k u2 u3:Nat)(a b:bA)(ha:iL a)(hb:iL b)(s:Kx)(hs:s.i<b.ae.length):
  ∃v' n',ct (run M) k b7.l1 (Ji u2 u3 a b s)=some (.normal,Ji u2 u3 a b ⟨s.i+1,v',n'⟩):=by
 obtain⟨i,v,n⟩:=s;simp only at hs;have hma:=ha.m;have hm:=hb.m;have h1:=jq.al K.holds a b.ae[i].gid ha.m;have e5:=cA (i:=i) (by omega);have hl:=FU a.ae b.ae i (by omega);have e7:((pU a.ae b.ae i).map ah).length=(pU a.ae b.ae i).length:=by simp
 have e6:(pU a.ae b.ae i).length+1≤4294967296:=by omega
 have e9:(b.ae.map ah).length=b.ae.length:=by simp
 have a1:∀hh,(b.ae.map ah)[i]'hh=ah b.ae[i]:=by intro hh;simp
 have eu:pU a.ae b.ae (i+1)=pU a.ae b.ae i++if holds a b.ae[i].gid=true then [] else [b.ae[i]]:=by
  simp only[pU,iA _ _ hs,List.filter_append,bN,Ax];cases q:(jW a.ae b.ae[i].gid).isNone<;>simp[q]
 cases hq:holds a b.ae[i].gid with
 |true=>
  rw[hq] at h1 eu;simp only[if_true,dp] at eu;simp only[Ji,Bo,eu];simp only[af,ae,ints,ah,jM] at h1 a1 ⊢;generalize List.map ah (pU a.ae b.ae i)=rr at*;generalize (pU a.ae b.ae i).length=nr at*;generalize a.ae.map ah=ra at*;generalize b.ae.map ah=rb at*;generalize az a.gone=ga at*;generalize az b.gone=gb at*;generalize b.ae[i].flags.map aS=rf at*;simp (maxSteps:=9^9) [b7.l1,setAt,h1,hs,e5,e9,a1,aa]
 |false=>
  rw[hq] at h1 eu;simp only[au,if_false] at eu;have h2:=eR.al K.copy b.ae[i] (hb.f _ (aq hs));simp only[Ji,Bo,eu,cg,bq,bF,ax,bZ];simp only[af,ae,ints,ah,jg,jM] at h1 h2 a1 ⊢;generalize List.map ah (pU a.ae b.ae i)=rr at*;generalize (pU a.ae b.ae i).length=nr at*;generalize a.ae.map ah=ra at*;generalize b.ae.map ah=rb at*;generalize az a.gone=ga at*;generalize az b.gone=gb at*;generalize b.ae[i].flags.map aS=rf at*;simp (maxSteps:=9^9) [b7.l1,setAt,h1,h2,hs,e5,e6,e7,e9,a1,aa]
theorem Lh(k u2 u3:Nat)(a b:bA)(s:Kx)(hs:¬s.i<b.ae.length):
  ∃n',ct (run M) k b7.l1 (Ji u2 u3 a b s)=some (.exit 2,MZ u2 u3 a b ⟨s.i,s.v,n'⟩):=by
 obtain⟨i,v,n⟩:=s;simp only at hs;simp only[Ji,MZ,Bo];generalize List.map ah (pU a.ae b.ae i)=rr at*;simp only[af,ae,ints];generalize a.ae.map ah=ra at*;generalize b.ae.map ah=rb at*;simp (maxSteps:=9^9) [b7.l1,hs]
def nL(need:Int→Bool)(nx:Int)(l:List bp)(i:Nat):List bp:=(eP need nx (l.take i)).1++l.drop i
def qy(need:Int→Bool)(nx:Int)(l:List bp)(i:Nat):Int:=(eP need nx (l.take i)).2
theorem rC(need:Int→Bool)(m:bp):∀(l:List bp) (n:Int),eP need n (l++[m])=if need m.gid=true then((eP need n l).1++[{m with uid:=(eP need n l).2}],(eP need n l).2+1) else((eP need n l).1++[m],(eP need n l).2)
 |[],n=>by simp[eP]
 |a::l,n=>by
  simp only[List.cons_append,eP,rC need m l];by_cases c:need a.gid=true<;>by_cases c2:need m.gid=true<;>simp[c,c2]
theorem kK(need:Int→Bool):∀(l:List bp) (n:Int),(eP need n l).1.length=l.length
 |[],n=>rfl
 |a::l,n=>by
  simp only[eP];split<;>simp[kK need l]
theorem sM(need:Int→Bool)(nx:Int)(l:List bp)(i:Nat):(nL need nx l i).length=l.length:=by
 simp only[nL,ax,kK,eD,List.length_drop];omega
theorem Hl(need:Int→Bool)(nx:Int)(l:List bp)(i:Nat)(h:i<l.length):(nL need nx l i)[i]'(by rw[sM];exact h)=l[i]:=by
 have e:(eP need nx (l.take i)).1.length=i:=by rw[kK];simp;omega
 simp only[nL];rw[List.getElem_append_right (by omega)];simp[e]
theorem C_(need:Int→Bool)(nx:Int)(l:List bp)(i:Nat)(h:i<l.length):
  nL need nx l (i+1)=if need l[i].gid=true then(nL need nx l i).set i {l[i] with uid:=qy need nx l i} else nL need nx l i:=by
 have e:(eP need nx (l.take i)).1.length=i:=by rw[kK];simp;omega
 have hd:l.drop i=l[i]::l.drop (i+1):=bD h;simp only[nL,qy,iA l i h,rC];by_cases c:need l[i].gid=true
 ·rw[if_pos c,if_pos c,List.set_append_right _ _ (by omega),e,Nat.sub_self];simp;rw[hd];rfl
 ·rw[if_neg c,if_neg c,hd];simp
theorem Fq(need:Int→Bool)(nx:Int)(l:List bp)(i:Nat)(h:i<l.length):qy need nx l (i+1)=if need l[i].gid=true then qy need nx l i+1 else qy need nx l i:=by
 simp only[qy,iA l i h,rC];split<;>rfl
theorem Da(need:Int→Bool)(nx:Int)(l:List bp)(i:Nat):nx≤qy need nx l i∧qy need nx l i≤nx+l.length:=by
 have h:=nA need (l.take i) nx;simp only[qy];have:(l.take i).length≤l.length:=by simp;omega
 omega
structure NZ where
 i:Nat
 v:Nat
 n:Nat
def Ko(u2 u3:Nat)(a b:bA)(need:Int→Bool)(nx:Int)(l:List bp)(Z:List (List T))(s:NZ):St:={t:=[(2,.c (.ptr 2 u2 0 0)),(3,.c (.ptr 3 u3 0 0)),(6,.c (.row 16 s.v 0 l.length)),(13,.c (I (qy need nx l s.i))),(76,.c (.row 16 s.v 0 l.length)),(77,.c (I l.length)),(78,.c (I s.i))],o:=Bo u2 u3 a b s.v ((nL need nx l s.i).map ah++Z),n:=s.n}
def MY(u2 u3:Nat)(a b:bA)(need:Int→Bool)(nx:Int)(l:List bp)(Z:List (List T))(s:NZ):St:={t:=[(2,.c (.ptr 2 u2 0 0)),(3,.c (.ptr 3 u3 0 0)),(6,.c (.row 16 s.v 0 l.length)),(13,.c (I (qy need nx l s.i))),(76,.c (.row 16 s.v 0 l.length)),(77,.c (I l.length)),(78,.c (I s.i)),(79,.c (.bool false))],o:=Bo u2 u3 a b s.v ((nL need nx l s.i).map ah++Z),n:=s.n}
theorem Je(K:LR M)(k u2 u3:Nat)(a b:bA)(ha:iL a)(hb:iL b)(nx:Int)(hnx: -1000000000≤nx∧nx≤4611686018427387904)(l:List bp)(hl:l.length≤1048576)(Z:List (List T))(s:NZ)(hs:s.i<l.length):
  ∃n',ct (run M) k b7.l2 (Ko u2 u3 a b (jv a b) nx l Z s)=some (.normal,Ko u2 u3 a b (jv a b) nx l Z ⟨s.i+1,s.v,n'⟩):=by
 obtain⟨i,v,n⟩:=s;simp only at hs;have h1:=jq.al K.holds a l[i].gid ha.m;have h2:=jq.al K.holds b l[i].gid hb.m;have h3:=dU.al K.keeps a b l[i].gid ha.m hb.m;have h4:=dU.al K.keeps b a l[i].gid hb.m ha.m;have e5:=cA (i:=i) (by omega);have hr:=Da (jv a b) nx l i;have e6:IntKind.i64.wrap (qy (jv a b) nx l i+1)=qy (jv a b) nx l i+1:=wrap_i64 (by omega) (by omega);have e7:i<((nL (jv a b) nx l i).map ah++Z).length:=by simp[sM];omega
 have a1:∀hh,((nL (jv a b) nx l i).map ah++Z)[i]'hh=ah l[i]:=by
  intro hh;rw[List.getElem_append_left (by simp[sM];omega)];simp only[f_,Hl _ _ _ _ hs]
 have t1:=C_ (jv a b) nx l i hs;have t2:=Fq (jv a b) nx l i hs;have t3:((nL (jv a b) nx l (i+1)).map ah++Z)=if jv a b l[i].gid=true then((nL (jv a b) nx l i).map ah++Z).set i (ah {l[i] with uid:=qy (jv a b) nx l i}) else(nL (jv a b) nx l i).map ah++Z:=by
  rw[t1];split
  ·rw[iU,List.set_append_left _ _ (by simp[sM];omega)]
  ·rfl
 simp only[Ko,Bo,t2,t3];have hn:jv a b l[i].gid=(holds a l[i].gid&& !jB a b l[i].gid||holds b l[i].gid&& !jB b a l[i].gid):=rfl;rw[hn];clear hn t1 t2 t3;generalize (nL (jv a b) nx l i).map ah++Z=rr at*;generalize qy (jv a b) nx l i=z at*;generalize holds a l[i].gid=p1 at*;generalize holds b l[i].gid=p2 at*;generalize jB a b l[i].gid=p3 at*;generalize jB b a l[i].gid=p4 at*;simp only[af,ae,ints,ah,jM] at h1 h2 h3 h4 a1 ⊢;generalize a.ae.map ah=ra at*;generalize b.ae.map ah=rb at*;generalize az a.gone=ga at*;generalize az b.gone=gb at*;generalize l[i]=m at*;generalize m.flags.map aS=rf at*;generalize l.length=N at*;cases p1<;>cases p2<;>cases p3<;>cases p4<;>simp (maxSteps:=9^9) [b7.l2,setAt,h1,h2,h3,h4,hs,e5,e6,e7,a1,aa]
theorem Lg(k u2 u3:Nat)(a b:bA)(need:Int→Bool)(nx:Int)(l:List bp)(Z:List (List T))(s:NZ)(hs:¬s.i<l.length):
  ∃n',ct (run M) k b7.l2 (Ko u2 u3 a b need nx l Z s)=some (.exit 4,MY u2 u3 a b need nx l Z ⟨s.i,s.v,n'⟩):=by
 obtain⟨i,v,n⟩:=s;simp only at hs;simp only[Ko,MY,Bo];generalize (nL need nx l i).map ah++Z=rr at*;generalize qy need nx l i=z at*;simp only[af,ae,ints];generalize a.ae.map ah=ra at*;generalize b.ae.map ah=rb at*;simp (maxSteps:=9^9) [b7.l2,hs]
theorem C9(need:Int→Bool)(nx:Int)(l:List bp):nL need nx l 0=l:=by simp[nL,eP]
theorem Fp(need:Int→Bool)(nx:Int)(l:List bp):qy need nx l 0=nx:=by simp[qy,eP]
theorem Fo(need:Int→Bool)(nx:Int)(l:List bp):nL need nx l l.length=(eP need nx l).1:=by simp[nL]
theorem Hm(need:Int→Bool)(nx:Int)(l:List bp):qy need nx l l.length=(eP need nx l).2:=by simp[qy]
theorem CR(a b:List bp):(firstM a b).take a.length=firstM a b:=aa (by rw[q9];exact Nat.le_refl _)
theorem Jk(K:LR M)(k u2 u3:Nat)(a b:bA)(ha:iL a)(hb:iL b)(v n:Nat)(hk:a.ae.length<k):
  ∃v' n',eZ (ct (run M) k b7.l0) k (Jl u2 u3 a b ⟨0,v,n⟩)=some (.exit 0,M0 u2 u3 a b ⟨a.ae.length,v',n'⟩):=by
 obtain⟨r,hr,⟨⟨i,v',n'⟩,rfl,hi⟩⟩:=kW (f:=ct (run M) k b7.l0) (Jl u2 u3 a b) (fun s=>s.i≤a.ae.length) (fun s=>a.ae.length-s.i) (fun r=>∃s',r=(.exit 0,M0 u2 u3 a b s')∧s'.i=a.ae.length)
  (fun s hs=>by
   by_cases c:s.i<a.ae.length
   ·left;obtain⟨v',n',hh⟩:=Jj K k u2 u3 a b ha hb s c;exact⟨_,hh,by simp only;omega,by simp only;omega⟩
   ·right;obtain⟨n',hh⟩:=Li (M:=M) k u2 u3 a b s c;exact⟨_,hh,by simp,_,rfl,by simp only;omega⟩) k ⟨0,v,n⟩ (by simp) (by simp only;omega)
 simp only at hi;subst hi;exact⟨v',n',hr⟩
theorem Jh(K:LR M)(k u2 u3:Nat)(a b:bA)(ha:iL a)(hb:iL b)(v n:Nat)(hk:b.ae.length<k):
  ∃v' n',eZ (ct (run M) k b7.l1) k (Ji u2 u3 a b ⟨0,v,n⟩)=some (.exit 2,MZ u2 u3 a b ⟨b.ae.length,v',n'⟩):=by
 obtain⟨r,hr,⟨⟨i,v',n'⟩,rfl,hi⟩⟩:=kW (f:=ct (run M) k b7.l1) (Ji u2 u3 a b) (fun s=>s.i≤b.ae.length) (fun s=>b.ae.length-s.i) (fun r=>∃s',r=(.exit 2,MZ u2 u3 a b s')∧s'.i=b.ae.length)
  (fun s hs=>by
   by_cases c:s.i<b.ae.length
   ·left;obtain⟨v',n',hh⟩:=Jg K k u2 u3 a b ha hb s c;exact⟨_,hh,by simp only;omega,by simp only;omega⟩
   ·right;obtain⟨n',hh⟩:=Lh (M:=M) k u2 u3 a b s c;exact⟨_,hh,by simp,_,rfl,by simp only;omega⟩) k ⟨0,v,n⟩ (by simp) (by simp only;omega)
 simp only at hi;subst hi;exact⟨v',n',hr⟩
theorem Jf(K:LR M)(k u2 u3:Nat)(a b:bA)(ha:iL a)(hb:iL b)(nx:Int)(hnx: -1000000000≤nx∧nx≤4611686018427387904)(l:List bp)(hl:l.length≤1048576)(Z:List (List T))(v n:Nat)(hk:l.length<k):
  ∃n',eZ (ct (run M) k b7.l2) k (Ko u2 u3 a b (jv a b) nx l Z ⟨0,v,n⟩)=some (.exit 4,MY u2 u3 a b (jv a b) nx l Z ⟨l.length,v,n'⟩):=by
 obtain⟨r,hr,⟨⟨i,v',n'⟩,rfl,hi,hv⟩⟩:=kW (f:=ct (run M) k b7.l2) (Ko u2 u3 a b (jv a b) nx l Z) (fun s=>s.i≤l.length∧s.v=v) (fun s=>l.length-s.i) (fun r=>∃s',r=(.exit 4,MY u2 u3 a b (jv a b) nx l Z s')∧s'.i=l.length∧s'.v=v)
  (fun s hs=>by
   by_cases c:s.i<l.length
   ·left;obtain⟨n',hh⟩:=Je K k u2 u3 a b ha hb nx hnx l hl Z s c;exact⟨_,hh,⟨by simp only;omega,hs.2⟩,by simp only;omega⟩
   ·right;obtain⟨n',hh⟩:=Lg (M:=M) k u2 u3 a b (jv a b) nx l Z s c;have:=hs.1;exact⟨_,hh,by simp,_,rfl,by simp only;omega,hs.2⟩) k ⟨0,v,n⟩ ⟨by simp,rfl⟩ (by simp only;omega)
 simp only at hi hv;subst hi;subst hv;exact⟨n',hr⟩
theorem wM(l:List Int)(x:Int):(ld l x).length≤l.length+1:=by
 have h:∀l:List Int,(l.filter (fun y=>decide (y<x))).length+(l.filter (fun y=>decide (x<y))).length≤l.length:=by
  intro l
  induction l with
  |nil=>simp
  |cons a l ih=>
   simp only[iX];by_cases c1:a<x
   ·have c2:¬x<a:=by omega
    simp[c1,c2];omega
   ·by_cases c2:x<a
    ·simp[c1,c2];omega
    ·simp[c1,c2];omega
 have:=h l;simp only[ld,ax,bZ];omega
theorem kG(a b:List Int):(aR a b).length≤a.length+b.length:=by
 have key:∀(l acc:List Int),(l.foldl kC acc).length≤l.length+acc.length:=by
  intro l
  induction l with
  |nil=>intro acc;simp
  |cons x l ih=>
   intro acc;have h1:=ih (kC acc x);have h2:(kC acc x).length≤acc.length+1:=by
    unfold kC;split
    ·omega
    ·exact wM acc x
   simp only[fa,bK];omega
 have:=key (a++b) [];simp only[ax,dM] at this;exact this
theorem Ae(a b:Int):Max.max a b=if a<b then b else a:=by split<;>omega
theorem b7.al(h:b7.k M)(a b:bA)(ha:iL a)(hb:iL b)(hall:(allM a.ae b.ae).length≤20)(hna: -1000000000≤a.next∧a.next≤4611686018427387904)(hnb: -1000000000≤b.next∧b.next≤4611686018427387904):
  run M 437 [.a (af a),.a (af b)] []=some (.lN [.c (.sl true 4 ((o9 a b).1.map ah)),.c (I (o9 a b).2)],[]):=by
 obtain⟨h0,kh,kk,kg,ka,kc,kj,kd,k1,ks,k2,k3⟩:=h;have K:LR M:=⟨kh,kk,kg,ka,kc,kj,kd,k1,ks,k2,k3⟩;have hma:=ha.m;have hmb:=hb.m;refine aA (b:=b7.m) h0 ⟨a.ae.length+b.ae.length+21, ?_⟩;generalize hk:a.ae.length+b.ae.length+21=k;obtain⟨v1,n1,r1⟩:=Jk K k 2000000 2000016 a b ha hb 2000064 2000160 (by omega);obtain⟨v2,n2,r2⟩:=Jh K k 2000000 2000016 a b ha hb v1 (n1+64) (by omega);have h4:=fM.al kg a.gone b.gone ha.g hb.g;have hG:(aR a.gone b.gone).length≤4194304:=by
  have:=kG a.gone b.gone;have:=ha.g;have:=hb.g;omega
 have hc1:=fun m=>hZ.al k1 m (aR a.gone b.gone) hG
 have h5:=aD.al kd hc1 (allM a.ae b.ae) (by omega);have hkl:((allM a.ae b.ae).filter fun m=> !decide (m.gid∈aR a.gone b.gone)).length≤(allM a.ae b.ae).length:=bP _ _;have h6:=aV.al ks (k:=fun m:bp=>m.gid) (hQ.al k2) ((allM a.ae b.ae).filter fun m=> !decide (m.gid∈aR a.gone b.gone)) (List.replicate ((allM a.ae b.ae).length-((allM a.ae b.ae).filter fun m=> !decide (m.gid∈aR a.gone b.gone)).length) s9) (by omega);have hj:o9 a b=(fv (·.uid) (eP (jv a b) (Max.max a.next b.next) (fv (·.gid) ((allM a.ae b.ae).filter fun m=> !decide (m.gid∈aR a.gone b.gone)))).1,(eP (jv a b) (Max.max a.next b.next) (fv (·.gid) ((allM a.ae b.ae).filter fun m=> !decide (m.gid∈aR a.gone b.gone)))).2):=rfl;rw[hj];have el0:((allM a.ae b.ae).map ah).length=(allM a.ae b.ae).length:=by simp
 have eF:firstM a.ae b.ae=firstM a.ae b.ae:=rfl;have hfl:=q9 a.ae b.ae;simp only[Jl,M0,Bo,List.take_zero,bF,CR] at r1;simp only[Ji,MZ,Bo,Er,FV,hfl] at r2;simp only[rU,dp] at h5 h6;generalize hz:List.replicate ((allM a.ae b.ae).length-((allM a.ae b.ae).filter fun m=> !decide (m.gid∈aR a.gone b.gone)).length) s9=Z at*;generalize hl1:((allM a.ae b.ae).filter fun m=> !decide (m.gid∈aR a.gone b.gone))=l1 at*;have hl2:(fv (fun m:bp=>m.gid) l1).length=l1.length:=iZ _;generalize hs2:fv (fun m:bp=>m.gid) l1=l2 at*;obtain⟨n3,r3⟩:=Jf K k 2000000 2000016 a b ha hb (Max.max a.next b.next) (by omega) l2 (by omega) Z v2 (n2+112+64+32+96+48) (by omega);have h7:=aV.al ks (k:=fun m:bp=>m.uid) (hO.al k3) (eP (jv a b) (Max.max a.next b.next) l2).1 Z (by rw[kK];omega);rw[kK] at h7;simp only[Ko,MY,Bo,C9,Fp,Fo,Hm] at r3;simp only[rU] at h7;have el1:l1.length≤(l1.map ah++Z).length:=by simp
 have el2:l2.length≤(l2.map ah++Z).length:=by simp
 have el3:l2.length≤((eP (jv a b) (Max.max a.next b.next) l2).1.map ah++Z).length:=by simp[kK]
 have el4:l2.length≤((fv (fun m:bp=>m.uid) (eP (jv a b) (Max.max a.next b.next) l2).1).map ah++Z).length:=by simp[iZ,kK]
 have el5:(((fv (fun m:bp=>m.uid) (eP (jv a b) (Max.max a.next b.next) l2).1).map ah++Z).take l2.length)=(fv (fun m:bp=>m.uid) (eP (jv a b) (Max.max a.next b.next) l2).1).map ah:=by
  rw[List.take_append_of_le_length (by simp[iZ,kK])];exact aa (by simp[iZ,kK])
 have em:=Ae a.next b.next;have ea:(a.ae.map ah).length=a.ae.length:=by simp
 have eb:(b.ae.map ah).length=b.ae.length:=by simp
 have ez:((0:Nat):Int)=0:=rfl;simp only[ez] at r1 r2 r3;generalize (eP (jv a b) (Max.max a.next b.next) l2).2=nz at*;simp only;generalize (fv (fun m:bp=>m.uid) (eP (jv a b) (Max.max a.next b.next) l2).1).map ah=R4 at*;generalize R4++Z=R4Z at*;generalize (eP (jv a b) (Max.max a.next b.next) l2).1.map ah++Z=R3Z at*;generalize hmx:Max.max a.next b.next=mx at*;generalize l2.map ah++Z=R2Z at*;generalize l1.map ah++Z=R1Z at*;rw[hl2] at*;clear hl1 hs2 hz hj hc1 K;generalize (allM a.ae b.ae).map ah=R0 at*;generalize (allM a.ae b.ae).length=N0 at*;generalize (firstM a.ae b.ae).map ah=RF at*;generalize l1.length=N1 at*;simp only[af,ae,ints] at*;generalize a.ae.map ah=ra at*;generalize b.ae.map ah=rb at*;generalize az (aR a.gone b.gone)=gj at*;generalize az a.gone=ga at*;generalize az b.gone=gb at*;by_cases c:a.next<b.next
 ·rw[if_pos c] at em;subst em;simp (maxSteps:=9^9) [ba,b7.m,b7.b,ab,setAt,r1,r2,r3,h4,h5,h6,h7,c,ea,eb,el0,el1,el3,el4,el5]
 ·rw[if_neg c] at em;subst em;simp (maxSteps:=9^9) [ba,b7.m,b7.b,ab,setAt,r1,r2,r3,h4,h5,h6,h7,c,ea,eb,el0,el1,el3,el4,el5]
structure yB (a b:bA):Prop where
 ia:iL a
 ib:iL b
 ga:a.gone.length≤500000
 gb:b.gone.length≤500000
 na:(fD a.ae).Nodup
 nb:(fD b.ae).Nodup
 all:(allM a.ae b.ae).length≤20
 xa: -1000000000≤a.next∧a.next≤1000000000
 xb: -1000000000≤b.next∧b.next≤1000000000
theorem um{a b:bA}(h:yB a b):(jx a b).1.length≤20:=by
 rw[←qj h.na h.nb];simp only[o9,iZ,kK];exact Nat.le_trans (bP _ _) h.all
theorem gZ.al(h:gZ.k M)(a b:bA)(H:yB a b):run M 401 [.a (af a),.a (af b)] []=some (.a (cm (iv a b)),[]):=by
 obtain⟨h0,kg,kc,kl,kj⟩:=h;have h1:=cB.al kc a H.ia;have h2:=fM.al kg a.gone b.gone H.ia.g H.ib.g;have h3:=gm.al kl b.time b.df a.time a.df;have h4:=gm.al kl a.time a.df b.time b.df;have h5:=b7.al kj a b H.ia H.ib H.all (by have:=H.xa;omega) (by have:=H.xb;omega);rw[qj H.na H.nb] at h5;have e1:(aR a.gone b.gone).length≤4194304:=by
  have:=kG a.gone b.gone;have:=H.ia.g;have:=H.ib.g;omega
 have e2:=aN (aR a.gone b.gone);have e3:((jx a b).1.map ah).length=(jx a b).1.length:=by simp
 have e4:(a.ae.map ah).length=a.ae.length:=by simp
 have e5:=aN a.gone;have e6:=vt a.name b.name;refine aA (b:=gZ.m) h0 ⟨0, ?_⟩;unfold iv;by_cases c:a.gid=b.gid
 ·rw[if_pos c];generalize ll b.time b.df a.time a.df=x at*;generalize ll a.time a.df b.time b.df=y at*;generalize hw:jP a.name b.name=w at*;clear hw;simp only[af,cm,ae,ints] at*;generalize (jx a b).1.map ah=rj at*;generalize (jx a b).1.length=nj at*;generalize (jx a b).2=xj at*;generalize az (aR a.gone b.gone)=gj at*;generalize a.ae.map ah=ra at*;generalize b.ae.map ah=rb at*;generalize az a.gone=ga at*;generalize az b.gone=gb at*;rw[c] at h5;cases x<;>cases y<;>cases w<;>simp (maxSteps:=9^9) [ba,gZ.m,gZ.b,ab,setAt,h2,h3,h4,h5,c,e2,e3,e6,aa]
 ·rw[if_neg c];simp only[af,cm,ae,ints] at*;generalize a.ae.map ah=ra at*;generalize b.ae.map ah=rb at*;generalize az a.gone=ga at*;generalize az b.gone=gb at*;simp (maxSteps:=9^9) [ba,gZ.m,gZ.b,ab,setAt,h1,c,e4,e5,aa]
theorem Al{a b:bA}(H:yB a b):∀m∈(jx a b).1,m.flags.length≤1048576:=by
 intro m hm;obtain⟨m0,h1,h2,h3,_,_⟩:=sr _ _ _ m ((uo H.na H.nb).mem_iff.1 hm);obtain⟨g,hg,rfl⟩:=List.mem_map.1 h1;rw[h3];unfold nC;cases q1:jW a.ae g with
 |some x=>
  have hx:=H.ia.f x (m8 q1).1;cases q2:jW b.ae g with
  |some y=>exact Nat.le_trans (rV _ _) hx
  |none=>exact hx
 |none=>
  cases q2:jW b.ae g with
  |some y=>exact H.ib.f y (m8 q2).1
  |none=>simp
theorem tC{a b:bA}(H:yB a b):iL (iv a b):=by
 unfold iv;split
 ·refine⟨by have:=um H;simp only;omega, ?_, ?_,Al H⟩
  ·have:=kG a.gone b.gone;have:=H.ga;have:=H.gb;simp only;omega
  ·simp only;split
   ·exact H.ib.n
   ·exact H.ia.n
 ·exact H.ia
theorem D9(a b:List bp):(allM a b).length≤a.length+b.length:=by
 have:=bP (fun m:bp=>(jW a m.gid).isNone) b;simp only[allM,ax,de];omega
theorem Good.Bl{a b:bA}(ha:Good a)(hb:Good b):yB a b:=
 ⟨ha.u_,hb.u_,by have:=ha.nV;omega,by have:=hb.nV;omega,ha.nd,hb.nd,by have:=D9 a.ae b.ae;have:=ha.len;have:=hb.len;omega,by have:=ha.next;omega,by have:=hb.next;omega⟩
theorem il.al(h:il.k M)(a b:bA):run M 459 [.a (af a),.a (af b)] []=some (.c (I (Max.max a.next b.next)),[]):=by
 refine aA (b:=il.m) h ⟨0, ?_⟩;have e:Max.max a.next b.next=if b.next<a.next then a.next else b.next:=by split<;>omega
 rw[e];simp only[af,ae,ints];by_cases c:b.next<a.next
 ·simp (maxSteps:=9^9) [ba,il.m,il.b,ab,c]
 ·simp (maxSteps:=9^9) [ba,il.m,il.b,ab,c]
theorem qR(p:bp→Bool):∀(l s:List bp),l.foldl (fun s a=>if p a=true then s++[a] else s) s=s++l.filter p
 |[],s=>by simp
 |a::l,s=>by
  rw[fa,qR p l,iX];by_cases h:p a=true<;>simp[h]
def ML(l:List bp)(m:bp)(i:Nat)(s:List bp)(x:Nat×Nat):St:={t:=[(0,.c (ae l)),(3,.c (.ptr 3 2000000 0 0)),(5,.c (.row 8 x.1 0 s.length)),(6,.c (I i))],o:=[(3,⟨2000000,4,true,true,[ah m]⟩),(8,⟨x.1,4,true,false,s.map ah⟩)],n:=x.2}
def Ow(l:List bp)(m:bp)(s:List bp)(x:Nat×Nat):St:={t:=[(0,.c (ae l)),(3,.c (.ptr 3 2000000 0 0)),(5,.c (.row 8 x.1 0 s.length)),(6,.c (I l.length)),(12,.c (.bool false))],o:=[(3,⟨2000000,4,true,true,[ah m]⟩),(8,⟨x.1,4,true,false,s.map ah⟩)],n:=x.2}
def MK(l:List bp)(m:bp)(i:Nat)(s:List bp)(x:Nat×Nat):St:={t:=[(0,.c (ae l)),(3,.c (.ptr 3 2000000 0 0)),(5,.c (.row 8 x.1 0 s.length)),(7,.c (I i))],o:=[(3,⟨2000000,4,true,true,[ah m]⟩),(8,⟨x.1,4,true,false,s.map ah⟩)],n:=x.2}
def Ov(l:List bp)(m:bp)(s:List bp)(x:Nat×Nat):St:={t:=[(0,.c (ae l)),(3,.c (.ptr 3 2000000 0 0)),(5,.c (.row 8 x.1 0 s.length)),(7,.c (I l.length)),(37,.c (.bool false))],o:=[(3,⟨2000000,4,true,true,[ah m]⟩),(8,⟨x.1,4,true,false,s.map ah⟩)],n:=x.2}
theorem cW.al(h:cW.k M)(l:List bp)(m:bp)(hl:l.length≤16777216):run M 462 [.c (ae l),.a (ah m)] []=some (.c (.sl true 4 ((iR (·.uid) l m).map ah)),[]):=by
 refine aA (b:=cW.m) h ⟨l.length+1, ?_⟩;have hrow:(l.map ah).length=l.length:=by simp
 have hat:∀i (hi:i<l.length) hh,(l.map ah)[i]'hh=ah l[i]:=by intro i hi hh;simp
 obtain⟨g,hr⟩:=jK (f:=ct (run M) (l.length+1) cW.l0) l (fun s a=>if decide (a.uid≤m.uid)=true then s++[a] else s) (fun i s=>s.length≤i) (ML l m) 0 (Ow l m)
  (fun i h s hs=>by split<;>(try simp)<;>omega)
  (fun i hi s x hs=>by
   obtain⟨v,n⟩:=x;have e5:=cA (i:=i) (by omega);have e6:s.length+1≤4294967296:=by omega
   have e9:(s.map ah).length=s.length:=by simp
   have a1:=hat i hi;simp only[aE];by_cases c:l[i].uid≤m.uid
   ·simp only[c,decide_true,if_true,ML,cg,bq,bF,ax,bZ];simp only[ae,ah,jM] at a1 ⊢;generalize s.map ah=rr at*;generalize l.map ah=rl at*;generalize l[i].flags.map aS=rf at*;simp (maxSteps:=9^9) [cW.l0,ab,hi,hrow,a1,c,e5,e6,e9,aa]
   ·simp only[c,decide_false,au,if_false,ML];simp only[ae,ah,jM] at a1 ⊢;generalize s.map ah=rr at*;generalize l.map ah=rl at*;generalize l[i].flags.map aS=rf at*;simp (maxSteps:=9^9) [cW.l0,ab,hi,hrow,a1,c,e5])
  (fun s x hs=>by
   obtain⟨v,n⟩:=x;simp only[aE,ML,Ow,ae];generalize l.map ah=rl at*;simp (maxSteps:=9^9) [cW.l0,ab,hrow]) [] (by simp)
 obtain⟨g',hr'⟩:=jK (f:=ct (run M) (l.length+1) cW.l1) l (fun s a=>if decide (m.uid<a.uid)=true then s++[a] else s) (fun i s=>s.length≤l.length+1+i) (MK l m) 2 (Ov l m)
  (fun i h s hs=>by split<;>(try simp)<;>omega)
  (fun i hi s x hs=>by
   obtain⟨v,n⟩:=x;have e5:=cA (i:=i) (by omega);have e6:s.length+1≤4294967296:=by omega
   have e9:(s.map ah).length=s.length:=by simp
   have a1:=hat i hi;simp only[aE];by_cases c:m.uid<l[i].uid
   ·simp only[c,decide_true,if_true,MK,cg,bq,bF,ax,bZ];simp only[ae,ah,jM] at a1 ⊢;generalize s.map ah=rr at*;generalize l.map ah=rl at*;generalize l[i].flags.map aS=rf at*;simp (maxSteps:=9^9) [cW.l1,ab,hi,hrow,a1,c,e5,e6,e9,aa]
   ·simp only[c,decide_false,au,if_false,MK];simp only[ae,ah,jM] at a1 ⊢;generalize s.map ah=rr at*;generalize l.map ah=rl at*;generalize l[i].flags.map aS=rf at*;simp (maxSteps:=9^9) [cW.l1,ab,hi,hrow,a1,c,e5])
  (fun s x hs=>by
   obtain⟨v,n⟩:=x;simp only[aE,MK,Ov,ae];generalize l.map ah=rl at*;simp (maxSteps:=9^9) [cW.l1,ab,hrow]) (l.filter (fun y=>decide (y.uid≤m.uid))++[m]) (by have:=bP (fun y:bp=>decide (y.uid≤m.uid)) l;simp;omega)
 rw[qR] at hr hr';have hr0:=hr (2000032,2000080);generalize g (2000032,2000080)=y at*;obtain⟨v1,n1⟩:=y;have hr1:=hr' (n1+48,n1+96);generalize g' (n1+48,n1+96)=y at*;obtain⟨v2,n2⟩:=y;have e1:(l.filter (fun y=>decide (y.uid≤m.uid))).length≤16777216:=Nat.le_trans (bP _ _) hl;have e2:(l.filter (fun y=>decide (m.uid<y.uid))).length≤16777216:=Nat.le_trans (bP _ _) hl;simp only[ML,Ow,MK,Ov,List.nil_append,cg,bq,bF,ax,bZ,dM] at hr0 hr1;have e3:((l.filter (fun y=>decide (y.uid≤m.uid))).map ah).length=(l.filter (fun y=>decide (y.uid≤m.uid))).length:=by simp
 have e4:((l.filter (fun y=>decide (m.uid<y.uid))).map ah).length=(l.filter (fun y=>decide (m.uid<y.uid))).length:=by simp
 have ez:((0:Nat):Int)=0:=rfl;simp only[ez] at hr0 hr1;simp only[iR,cg,bq,bF];simp only[ae,ah,jM] at*;generalize (l.filter (fun y=>decide (y.uid≤m.uid))).map ah=r1 at*;generalize (l.filter (fun y=>decide (m.uid<y.uid))).map ah=r2 at*;generalize (l.filter (fun y=>decide (y.uid≤m.uid))).length=k1 at*;generalize (l.filter (fun y=>decide (m.uid<y.uid))).length=k2 at*;generalize l.map ah=rl at*;generalize m.flags.map aS=rf at*;have e5:k1+1≤4294967296:=by omega
 have e6:(r1++([I m.gid,I m.uid,T.sl false 3 rf,S m.text]::r2)).take (k1+1+k2)=r1++([I m.gid,I m.uid,T.sl false 3 rf,S m.text]::r2):=aa (by simp;omega);have e7:k1+1+k2≤k1+(k2+1):=by omega
 simp (maxSteps:=9^9) [ba,cW.m,cW.b,ab,e7,hr0,hr1,e3,e4,e5,e6,aa]
def M9(u2 u3:Nat)(a b:bA)(i:Nat)(s:List Int)(x:Nat×Nat):St:={t:=[(2,.c (.ptr 2 u2 0 0)),(3,.c (.ptr 3 u3 0 0)),(5,.c (.row 8 x.1 0 s.length)),(6,.c (I i))],o:=[(2,⟨u2,7,true,true,[af a]⟩),(3,⟨u3,7,true,true,[af b]⟩),(8,⟨x.1,1,true,false,az s⟩)],n:=x.2}
def OG(u2 u3:Nat)(a b:bA)(s:List Int)(x:Nat×Nat):St:={t:=[(2,.c (.ptr 2 u2 0 0)),(3,.c (.ptr 3 u3 0 0)),(5,.c (.row 8 x.1 0 s.length)),(6,.c (I a.ae.length)),(13,.c (.bool false))],o:=[(2,⟨u2,7,true,true,[af a]⟩),(3,⟨u3,7,true,true,[af b]⟩),(8,⟨x.1,1,true,false,az s⟩)],n:=x.2}
def M8(u3:Nat)(b:bA)(i:Nat)(s:List Int)(x:Nat×Nat):St:={t:=[(3,.c (.ptr 3 u3 0 0)),(5,.c (.row 8 x.1 0 s.length)),(7,.c (I i))],o:=[(3,⟨u3,7,true,true,[af b]⟩),(8,⟨x.1,1,true,false,az s⟩)],n:=x.2}
def OF(u3:Nat)(b:bA)(s:List Int)(x:Nat×Nat):St:={t:=[(3,.c (.ptr 3 u3 0 0)),(5,.c (.row 8 x.1 0 s.length)),(7,.c (I b.ae.length)),(37,.c (.bool false))],o:=[(3,⟨u3,7,true,true,[af b]⟩),(8,⟨x.1,1,true,false,az s⟩)],n:=x.2}
theorem sH(s:List Int)(x:Int):(kC s x).length≤s.length+1:=by
 unfold kC;split
 ·omega
 ·exact wM s x
theorem zt(l:List bp)(s:List Int):l.foldl (fun s m=>kC s m.gid) s=(fD l).foldl kC s:=by
 simp only[fD,List.foldl_map]
theorem dq.al(h:dq.k M)(a b:bA)(ha:a.ae.length≤1048576)(hb:b.ae.length≤1048576):run M 460 [.a (af a),.a (af b)] []=some (.c (.sl true 1 (az (aR (fD a.ae) (fD b.ae)))),[]):=by
 obtain⟨h0,kin,kput⟩:=h;refine aA (b:=dq.m) h0 ⟨a.ae.length+b.ae.length+1, ?_⟩;generalize hK:a.ae.length+b.ae.length+1=K;have hra:(a.ae.map ah).length=a.ae.length:=by simp
 have hrb:(b.ae.map ah).length=b.ae.length:=by simp
 obtain⟨g,hr⟩:=jK (f:=ct (run M) K dq.l0) a.ae (fun s m=>kC s m.gid) (fun i s=>s.length≤i) (M9 2000000 2000016 a b) 0 (OG 2000000 2000016 a b)
  (fun i h s hs=>by have:=sH s a.ae[i].gid;omega)
  (fun i hi s x hs=>by
   obtain⟨v,n⟩:=x;have e5:=cA (i:=i) (by omega);have e9:=aN s;have h1:=bj.al kin s a.ae[i].gid (by omega);have h2:=b9.al kput s a.ae[i].gid (by omega);have a1:∀hh,(a.ae.map ah)[i]'hh=ah a.ae[i]:=by intro hh;simp
   have e10:=aN (ld s a.ae[i].gid);have hfl:=kY (ld s a.ae[i].gid);simp only[aE,kC];by_cases c:a.ae[i].gid∈s
   ·rw[decide_eq_true c] at h1;rw[if_pos c];simp only[M9];simp only[af,ae,ints,ah,jM] at a1 h1 ⊢;generalize az s=rs at*;generalize a.ae.map ah=ra at*;generalize b.ae.map ah=rb at*;simp (maxSteps:=9^9) [dq.l0,hra,hi,h1,a1,e5,e9,aa]
   ·rw[decide_eq_false c] at h1;rw[if_neg c];simp only[M9];simp only[af,ae,ints,ah,jM] at a1 h1 h2 ⊢;generalize az (ld s a.ae[i].gid)=rp at*;generalize az s=rs at*;generalize a.ae.map ah=ra at*;generalize b.ae.map ah=rb at*;simp (maxSteps:=9^9) [dq.l0,hra,hi,h1,h2,a1,e5,e9,e10,hfl,aa])
  (fun s x hs=>by
   obtain⟨v,n⟩:=x;simp only[aE,M9,OG,af,ae,ints];generalize a.ae.map ah=ra at*;generalize b.ae.map ah=rb at*;simp (maxSteps:=9^9) [dq.l0,hra]) [] (by simp)
 obtain⟨g',hr'⟩:=jK (f:=ct (run M) K dq.l1) b.ae (fun s m=>kC s m.gid) (fun i s=>s.length≤a.ae.length+i) (M8 2000016 b) 2 (OF 2000016 b)
  (fun i h s hs=>by have:=sH s b.ae[i].gid;omega)
  (fun i hi s x hs=>by
   obtain⟨v,n⟩:=x;have e5:=cA (i:=i) (by omega);have e9:=aN s;have h1:=bj.al kin s b.ae[i].gid (by omega);have h2:=b9.al kput s b.ae[i].gid (by omega);have a1:∀hh,(b.ae.map ah)[i]'hh=ah b.ae[i]:=by intro hh;simp
   have e10:=aN (ld s b.ae[i].gid);have hfl:=kY (ld s b.ae[i].gid);simp only[aE,kC];by_cases c:b.ae[i].gid∈s
   ·rw[decide_eq_true c] at h1;rw[if_pos c];simp only[M8];simp only[af,ae,ints,ah,jM] at a1 h1 ⊢;generalize az s=rs at*;generalize b.ae.map ah=rb at*;simp (maxSteps:=9^9) [dq.l1,hrb,hi,h1,a1,e5,e9,aa]
   ·rw[decide_eq_false c] at h1;rw[if_neg c];simp only[M8];simp only[af,ae,ints,ah,jM] at a1 h1 h2 ⊢;generalize az (ld s b.ae[i].gid)=rp at*;generalize az s=rs at*;generalize b.ae.map ah=rb at*;simp (maxSteps:=9^9) [dq.l1,hrb,hi,h1,h2,a1,e5,e9,e10,hfl,aa])
  (fun s x hs=>by
   obtain⟨v,n⟩:=x;simp only[aE,M8,OF,af,ae,ints];generalize b.ae.map ah=rb at*;simp (maxSteps:=9^9) [dq.l1,hrb]) (a.ae.foldl (fun s m=>kC s m.gid) []) (by
    have:=vf a.ae (fun s m=>kC s m.gid) (fun i s=>s.length≤i) (fun i h s hs=>by have:=sH s a.ae[i].gid;omega) [] (by simp);omega)
 have hj:aR (fD a.ae) (fD b.ae)=b.ae.foldl (fun s m=>kC s m.gid) (a.ae.foldl (fun s m=>kC s m.gid) []):=by
  rw[zt,zt,aR,List.foldl_append]
 rw[hj];clear hj;have hr0:=gT (hr (2000048,2000096)) (show a.ae.length+1≤K by omega);generalize g (2000048,2000096)=y at*;obtain⟨v1,n1⟩:=y;have hr1:=gT (hr' (v1,n1+16)) (show b.ae.length+1≤K by omega);generalize g' (v1,n1+16)=y at*;obtain⟨v2,n2⟩:=y;generalize hs1:a.ae.foldl (fun s m=>kC s m.gid) []=s1 at*;generalize hs2:b.ae.foldl (fun s m=>kC s m.gid) s1=s2 at*;have ez:((0:Nat):Int)=0:=rfl;have e10:=aN s2;simp only[M9,OG,M8,OF,ez,dM,nJ] at hr0 hr1;simp only[af,ae,ints] at*;generalize az s1=r1 at*;generalize az s2=r2 at*;generalize a.ae.map ah=ra at*;generalize b.ae.map ah=rb at*;simp (maxSteps:=9^9) [ba,dq.m,dq.b,ab,hr0,hr1,e10,aa]
def Kk(u2 u3:Nat)(a b:bA)(v:Nat)(L:List bp):List (Nat×Ob):=[(2,⟨u2,7,true,true,[af a]⟩),(3,⟨u3,7,true,true,[af b]⟩),(17,⟨v,4,true,false,L.map ah⟩)]
def B4(u2 u3:Nat)(a b:bA)(G:List Int)(i:Nat)(s:List bp×Int)(x:Nat×Nat):St:={t:=[(2,.c (.ptr 2 u2 0 0)),(3,.c (.ptr 3 u3 0 0)),(6,.c (I s.2)),(7,.c (.row 17 x.1 0 s.1.length)),(8,.c (ints G)),(9,.c (I i))],o:=Kk u2 u3 a b x.1 s.1,n:=x.2}
def Nt(u2 u3:Nat)(a b:bA)(G:List Int)(s:List bp×Int)(x:Nat×Nat):St:={t:=[(2,.c (.ptr 2 u2 0 0)),(3,.c (.ptr 3 u3 0 0)),(6,.c (I s.2)),(7,.c (.row 17 x.1 0 s.1.length)),(8,.c (ints G)),(9,.c (I G.length)),(24,.c (.bool false))],o:=Kk u2 u3 a b x.1 s.1,n:=x.2}
structure Ng (M:Nat→Option Body):Prop where
 keeps:dR.k M
 at_:bT.k M
 HY:bj.k M
 copy:fU.k M
 join:fJ.k M
 put:cW.k M
theorem holds_of{a:bA}{g:Int}:holds a g=(gg a.ae g).isSome:=by
 unfold holds;cases gg a.ae g with
 |none=>rfl
 |some k=>exact decide_eq_true (Int.natCast_nonneg k)
theorem Dx(K:Ng M)(k u2 u3:Nat)(a b:bA)(ha:iL a)(hb:iL b)(G:List Int)(hG:G.length≤4194304)(i:Nat)(hi:i<G.length)(s:List bp×Int)(x:Nat×Nat)(c:G[i]∈a.gone∨G[i]∈b.gone):
  ∃y,ct (run M) k da.l0 (B4 u2 u3 a b G i s x)=some (.normal,B4 u2 u3 a b G (i+1) s y):=by
 obtain⟨v,n⟩:=x;obtain⟨L,nx⟩:=s;have h1:=bj.al K.HY a.gone G[i] (by have:=ha.g;omega);have h2:=bj.al K.HY b.gone G[i] (by have:=hb.g;omega);have e5:=cA (i:=i) (by omega);have eg:=aN G;have a0:∀hh,(az G)[i]'hh=[I G[i]]:=by intro hh;simp[az]
 have hcd:G[i]∈a.gone∨¬G[i]∈a.gone∧G[i]∈b.gone:=by
  by_cases q:G[i]∈a.gone
  ·exact .inl q
  ·exact .inr ⟨q,c.resolve_left q⟩
 simp only[aE,B4,Kk];rcases hcd with q|⟨q1,q2⟩
 ·rw[decide_eq_true q] at h1;simp only[af,ae,ints] at*;generalize az G=rg at*;generalize az a.gone=ga at*;generalize az b.gone=gb at*;generalize a.ae.map ah=ra at*;generalize b.ae.map ah=rb at*;generalize L.map ah=rl at*;simp (maxSteps:=9^9) [da.l0,ab,hi,h1,e5,eg,a0]
 ·rw[decide_eq_false q1] at h1;rw[decide_eq_true q2] at h2;simp only[af,ae,ints] at*;generalize az G=rg at*;generalize az a.gone=ga at*;generalize az b.gone=gb at*;generalize a.ae.map ah=ra at*;generalize b.ae.map ah=rb at*;generalize L.map ah=rl at*;simp (maxSteps:=9^9) [da.l0,ab,hi,h1,h2,e5,eg,a0]
theorem KP(k u2 u3:Nat)(a b:bA)(G:List Int)(s:List bp×Int)(x:Nat×Nat):
  ∃y,ct (run M) k da.l0 (B4 u2 u3 a b G G.length s x)=some (.exit 0,Nt u2 u3 a b G s y):=by
 obtain⟨v,n⟩:=x;obtain⟨L,nx⟩:=s;have eg:=aN G;simp only[aE,B4,Nt,Kk];simp only[af,ae,ints] at*;generalize az G=rg at*;generalize az a.gone=ga at*;generalize az b.gone=gb at*;generalize a.ae.map ah=ra at*;generalize b.ae.map ah=rb at*;generalize L.map ah=rl at*;simp (maxSteps:=9^9) [da.l0,ab,eg]
theorem Iy(K:Ng M)(k u2 u3:Nat)(a b:bA)(ha:iL a)(hb:iL b)(G:List Int)(hG:G.length≤4194304)(i:Nat)(hi:i<G.length)(s:List bp×Int)(hs:s.1.length≤16777216)(hx: -1000000000≤s.2∧s.2≤1000000000000)(x:Nat×Nat)(c1:¬G[i]∈a.gone)(c2:¬G[i]∈b.gone)
  (p q:Nat) (hp:gg a.ae G[i]=some p) (hq:gg b.ae G[i]=some q):
  ∃y,ct (run M) k da.l0 (B4 u2 u3 a b G i s x)=some (.normal,B4 u2 u3 a b G (i+1) (mw a b s G[i]) y):=by
 obtain⟨v,n⟩:=x;obtain⟨L,nx⟩:=s;simp only at hs hx;have h1:=bj.al K.HY a.gone G[i] (by have:=ha.g;omega);have h2:=bj.al K.HY b.gone G[i] (by have:=hb.g;omega);rw[decide_eq_false c1] at h1;rw[decide_eq_false c2] at h2;have h3:=bT.al K.at_ a G[i] ha.m;have h4:=bT.al K.at_ b G[i] hb.m;rw[hp] at h3;rw[hq] at h4;obtain⟨hp1,hp2⟩:=mG hp;obtain⟨hq1,hq2⟩:=mG hq;have h5:=fJ.al K.join a.ae[p] b.ae[q] (ha.f _ (aq hp1)) (hb.f _ (aq hq1));have h6:=dR.al K.keeps a b G[i] ha.m hb.m;have h7:=dR.al K.keeps b a G[i] hb.m ha.m;have h8:=cW.al K.put L (iQ a.ae[p] b.ae[q]) hs;have h9:=cW.al K.put L {iQ a.ae[p] b.ae[q] with uid:=nx} hs
 have e5:=cA (i:=i) (by omega);have e6:IntKind.i64.wrap (nx+1)=nx+1:=wrap_i64 (by omega) (by omega);have eg:=aN G;have a0:∀hh,(az G)[i]'hh=[I G[i]]:=by intro hh;simp[az]
 have a1:∀hh,(a.ae.map ah)[p]'hh=ah a.ae[p]:=by intro hh;simp
 have a2:∀hh,(b.ae.map ah)[q]'hh=ah b.ae[q]:=by intro hh;simp
 have el:(L.map ah).length=L.length:=by simp
 have eA:(a.ae.map ah).length=a.ae.length:=by simp
 have eB:(b.ae.map ah).length=b.ae.length:=by simp
 have l8:((iR (fun m:bp=>m.uid) L (iQ a.ae[p] b.ae[q])).map ah).length=(iR (fun m:bp=>m.uid) L (iQ a.ae[p] b.ae[q])).length:=by simp
 have l9:((iR (fun m:bp=>m.uid) L {iQ a.ae[p] b.ae[q] with uid:=nx}).map ah).length=(iR (fun m:bp=>m.uid) L {iQ a.ae[p] b.ae[q] with uid:=nx}).length:=by simp
 have hst:mw a b (L,nx) G[i]=if(!jB a b G[i]|| !jB b a G[i])=true then(iR (fun m:bp=>m.uid) L {iQ a.ae[p] b.ae[q] with uid:=nx},nx+1) else(iR (fun m:bp=>m.uid) L (iQ a.ae[p] b.ae[q]),nx):=by
  have e1:jv a b G[i]=(!jB a b G[i]|| !jB b a G[i]):=by simp[jv,holds_of,hp,hq]
  have e2:nC a.ae b.ae G[i]=iQ a.ae[p] b.ae[q]:=by simp[nC,hp2,hq2]
  simp only[mw];rw[if_neg (by simp[c1,c2]),e1,e2]
 rw[hst];clear hst hp hq hp2 hq2 c1 c2;simp only[aE,B4,Kk];simp only[af,ae,ints,dO,ah,jg,jM] at*;generalize jB a b G[i]=w1 at*;generalize jB b a G[i]=w2 at*;generalize iQ a.ae[p] b.ae[q]=m at*;generalize iR (fun m:bp=>m.uid) L {m with uid:=nx}=L9 at*
 generalize iR (fun m:bp=>m.uid) L m=L8 at*;generalize a.ae[p]=ma at*;generalize b.ae[q]=mb at*;generalize G[i]=g at*;generalize az G=rg at*;generalize az a.gone=ga at*;generalize az b.gone=gb at*;generalize a.ae.map ah=ra at*;generalize b.ae.map ah=rb at*;generalize L.map ah=rl at*;generalize m.flags.map aS=rm at*;generalize ma.flags.map aS=rma at*;generalize mb.flags.map aS=rmb at*;cases w1<;>cases w2<;>simp (maxSteps:=9^9) [da.l0,ab,setAt,hi,hp1,hq1,h1,h2,h3,h4,h5,h6,h7,h8,h9,e5,e6,eg,a0,a1,a2,el,eA,eB,l8,l9,aa]
theorem Od(K:Ng M)(k u2 u3:Nat)(a b:bA)(ha:iL a)(hb:iL b)(G:List Int)(hG:G.length≤4194304)(i:Nat)(hi:i<G.length)(s:List bp×Int)(hs:s.1.length≤16777216)(hx: -1000000000≤s.2∧s.2≤1000000000000)(x:Nat×Nat)(c1:¬G[i]∈a.gone)(c2:¬G[i]∈b.gone)
  (p:Nat) (hp:gg a.ae G[i]=some p) (hq:gg b.ae G[i]=none):
  ∃y,ct (run M) k da.l0 (B4 u2 u3 a b G i s x)=some (.normal,B4 u2 u3 a b G (i+1) (mw a b s G[i]) y):=by
 obtain⟨v,n⟩:=x;obtain⟨L,nx⟩:=s;simp only at hs hx;have h1:=bj.al K.HY a.gone G[i] (by have:=ha.g;omega);have h2:=bj.al K.HY b.gone G[i] (by have:=hb.g;omega);rw[decide_eq_false c1] at h1;rw[decide_eq_false c2] at h2;have h3:=bT.al K.at_ a G[i] ha.m;have h4:=bT.al K.at_ b G[i] hb.m;rw[hp] at h3;rw[hq] at h4;obtain⟨hp1,hp2⟩:=mG hp;have hq2:=oK.1 hq;have h5:=fU.al K.copy a.ae[p] (ha.f _ (aq hp1));have h6:=dR.al K.keeps a b G[i] ha.m hb.m;have h8:=cW.al K.put L a.ae[p] hs;have h9:=cW.al K.put L {a.ae[p] with uid:=nx} hs
 have e5:=cA (i:=i) (by omega);have e6:IntKind.i64.wrap (nx+1)=nx+1:=wrap_i64 (by omega) (by omega);have eg:=aN G;have a0:∀hh,(az G)[i]'hh=[I G[i]]:=by intro hh;simp[az]
 have a1:∀hh,(a.ae.map ah)[p]'hh=ah a.ae[p]:=by intro hh;simp
 have el:(L.map ah).length=L.length:=by simp
 have eA:(a.ae.map ah).length=a.ae.length:=by simp
 have eB:(b.ae.map ah).length=b.ae.length:=by simp
 have l8:((iR (fun m:bp=>m.uid) L a.ae[p]).map ah).length=(iR (fun m:bp=>m.uid) L a.ae[p]).length:=by simp
 have l9:((iR (fun m:bp=>m.uid) L {a.ae[p] with uid:=nx}).map ah).length=(iR (fun m:bp=>m.uid) L {a.ae[p] with uid:=nx}).length:=by simp
 have hst:mw a b (L,nx) G[i]=if(!jB a b G[i])=true then(iR (fun m:bp=>m.uid) L {a.ae[p] with uid:=nx},nx+1) else(iR (fun m:bp=>m.uid) L a.ae[p],nx):=by
  have e1:jv a b G[i]=(!jB a b G[i]):=by simp[jv,holds_of,hp,hq]
  have e2:nC a.ae b.ae G[i]=a.ae[p]:=by simp[nC,hp2,hq2]
  simp only[mw];rw[if_neg (by simp[c1,c2]),e1,e2]
 rw[hst];clear hst hp hq hp2 hq2 c1 c2;simp only[aE,B4,Kk];simp only[af,ae,ints,dO,ah,jg,jM] at*;generalize jB a b G[i]=w1 at*;generalize a.ae[p]=m at*;generalize iR (fun m:bp=>m.uid) L {m with uid:=nx}=L9 at*
 generalize iR (fun m:bp=>m.uid) L m=L8 at*;generalize G[i]=g at*;generalize az G=rg at*;generalize az a.gone=ga at*;generalize az b.gone=gb at*;generalize a.ae.map ah=ra at*;generalize b.ae.map ah=rb at*;generalize L.map ah=rl at*;generalize m.flags.map aS=rm at*;cases w1<;>simp (maxSteps:=9^9) [da.l0,ab,setAt,hi,hp1,h1,h2,h3,h4,h5,h6,h8,h9,e5,e6,eg,a0,a1,el,eA,l8,l9,aa]
theorem Oc(K:Ng M)(k u2 u3:Nat)(a b:bA)(ha:iL a)(hb:iL b)(G:List Int)(hG:G.length≤4194304)(i:Nat)(hi:i<G.length)(s:List bp×Int)(hs:s.1.length≤16777216)(hx: -1000000000≤s.2∧s.2≤1000000000000)(x:Nat×Nat)(c1:¬G[i]∈a.gone)(c2:¬G[i]∈b.gone)
  (q:Nat) (hp:gg a.ae G[i]=none) (hq:gg b.ae G[i]=some q):
  ∃y,ct (run M) k da.l0 (B4 u2 u3 a b G i s x)=some (.normal,B4 u2 u3 a b G (i+1) (mw a b s G[i]) y):=by
 obtain⟨v,n⟩:=x;obtain⟨L,nx⟩:=s;simp only at hs hx;have h1:=bj.al K.HY a.gone G[i] (by have:=ha.g;omega);have h2:=bj.al K.HY b.gone G[i] (by have:=hb.g;omega);rw[decide_eq_false c1] at h1;rw[decide_eq_false c2] at h2;have h3:=bT.al K.at_ a G[i] ha.m;have h4:=bT.al K.at_ b G[i] hb.m;rw[hp] at h3;rw[hq] at h4;have hp2:=oK.1 hp;obtain⟨hq1,hq2⟩:=mG hq;have h5:=fU.al K.copy b.ae[q] (hb.f _ (aq hq1));have h7:=dR.al K.keeps b a G[i] hb.m ha.m;have h8:=cW.al K.put L b.ae[q] hs;have h9:=cW.al K.put L {b.ae[q] with uid:=nx} hs
 have e5:=cA (i:=i) (by omega);have e6:IntKind.i64.wrap (nx+1)=nx+1:=wrap_i64 (by omega) (by omega);have eg:=aN G;have a0:∀hh,(az G)[i]'hh=[I G[i]]:=by intro hh;simp[az]
 have a2:∀hh,(b.ae.map ah)[q]'hh=ah b.ae[q]:=by intro hh;simp
 have el:(L.map ah).length=L.length:=by simp
 have eA:(a.ae.map ah).length=a.ae.length:=by simp
 have eB:(b.ae.map ah).length=b.ae.length:=by simp
 have l8:((iR (fun m:bp=>m.uid) L b.ae[q]).map ah).length=(iR (fun m:bp=>m.uid) L b.ae[q]).length:=by simp
 have l9:((iR (fun m:bp=>m.uid) L {b.ae[q] with uid:=nx}).map ah).length=(iR (fun m:bp=>m.uid) L {b.ae[q] with uid:=nx}).length:=by simp
 have hst:mw a b (L,nx) G[i]=if(!jB b a G[i])=true then(iR (fun m:bp=>m.uid) L {b.ae[q] with uid:=nx},nx+1) else(iR (fun m:bp=>m.uid) L b.ae[q],nx):=by
  have e1:jv a b G[i]=(!jB b a G[i]):=by simp[jv,holds_of,hp,hq]
  have e2:nC a.ae b.ae G[i]=b.ae[q]:=by simp[nC,hp2,hq2]
  simp only[mw];rw[if_neg (by simp[c1,c2]),e1,e2]
 rw[hst];clear hst hp hq hp2 hq2 c1 c2;simp only[aE,B4,Kk];simp only[af,ae,ints,dO,ah,jg,jM] at*;generalize jB b a G[i]=w2 at*;generalize b.ae[q]=m at*;generalize iR (fun m:bp=>m.uid) L {m with uid:=nx}=L9 at*
 generalize iR (fun m:bp=>m.uid) L m=L8 at*;generalize G[i]=g at*;generalize az G=rg at*;generalize az a.gone=ga at*;generalize az b.gone=gb at*;generalize a.ae.map ah=ra at*;generalize b.ae.map ah=rb at*;generalize L.map ah=rl at*;generalize m.flags.map aS=rm at*;cases w2<;>simp (maxSteps:=9^9) [da.l0,ab,setAt,hi,hq1,h1,h2,h3,h4,h5,h7,h8,h9,e5,e6,eg,a0,a2,el,eB,l8,l9,aa]
theorem Ex(a b:bA)(s:List bp×Int)(g:Int):(mw a b s g).1.length≤s.1.length+1∧s.2≤(mw a b s g).2∧(mw a b s g).2≤s.2+1:=by
 have h:∀(L:List bp) (m:bp),(iR (fun m:bp=>m.uid) L m).length=L.length+1:=fun L m=>by
  have:=(xU (k:=fun m:bp=>m.uid) L m).length_eq;simpa using this
 unfold mw;split
 ·omega
 ·split
  ·simp only[h];omega
  ·simp only[h];omega
theorem da.al(h:da.k M)(a b:bA)(ha:iL a)(hb:iL b)(hna: -1000000000≤a.next∧a.next≤1000000000)(hnb: -1000000000≤b.next∧b.next≤1000000000):
  run M 439 [.a (af a),.a (af b)] []=some (.lN [.c (.sl true 4 ((jx a b).1.map ah)),.c (I (jx a b).2)],[]):=by
 obtain⟨h0,kk,ka,ki,kc,kn,kg,kj,kp⟩:=h;have K:Ng M:=⟨kk,ka,ki,kc,kj,kp⟩;have h1:=il.al kn a b;have h2:=dq.al kg a b ha.m hb.m;have hG:(aR (fD a.ae) (fD b.ae)).length≤4194304:=by
  have:=kG (fD a.ae) (fD b.ae);have e1:(fD a.ae).length=a.ae.length:=by simp[fD]
  have e2:(fD b.ae).length=b.ae.length:=by simp[fD]
  have:=ha.m;have:=hb.m;omega
 have hmem:∀g∈aR (fD a.ae) (fD b.ae),g∈fD a.ae∨g∈fD b.ae:=fun g hg=>(je _ _ _).1 hg
 have hJ:jx a b=(aR (fD a.ae) (fD b.ae)).foldl (mw a b) ([],Max.max a.next b.next):=rfl;rw[hJ];have eg:=aN (aR (fD a.ae) (fD b.ae));clear hJ;generalize aR (fD a.ae) (fD b.ae)=G at*;generalize hmx:Max.max a.next b.next=mx at*;refine aA (b:=da.m) h0 ⟨G.length+1, ?_⟩;obtain⟨g,hr⟩:=jK (f:=ct (run M) (G.length+1) da.l0) G (mw a b) (fun i s=>s.1.length≤i∧mx≤s.2∧s.2≤mx+i) (B4 2000000 2000016 a b G) 0 (Nt 2000000 2000016 a b G)
  (fun i hi s hs=>by have:=Ex a b s G[i];omega)
  (fun i hi s x hs=>by
   by_cases c1:G[i]∈a.gone
   ·have e:mw a b s G[i]=s:=by unfold mw;rw[if_pos (.inl c1)]
    rw[e];exact Dx K _ _ _ a b ha hb G hG i hi s x (.inl c1)
   by_cases c2:G[i]∈b.gone
   ·have e:mw a b s G[i]=s:=by unfold mw;rw[if_pos (.inr c2)]
    rw[e];exact Dx K _ _ _ a b ha hb G hG i hi s x (.inr c2)
   cases hp:gg a.ae G[i] with
   |some p=>
    cases hq:gg b.ae G[i] with
    |some q=>exact Iy K _ _ _ a b ha hb G hG i hi s (by omega) (by omega) x c1 c2 p q hp hq
    |none=>exact Od K _ _ _ a b ha hb G hG i hi s (by omega) (by omega) x c1 c2 p hp hq
   |none=>
    cases hq:gg b.ae G[i] with
    |some q=>exact Oc K _ _ _ a b ha hb G hG i hi s (by omega) (by omega) x c1 c2 q hp hq
    |none=>
     exfalso;rcases hmem _ (aq hi) with z|z
     ·obtain⟨m,hm,e⟩:=List.mem_map.1 z;exact pB.1 hp m hm e
     ·obtain⟨m,hm,e⟩:=List.mem_map.1 z;exact pB.1 hq m hm e)
  (fun s x hs=>KP _ _ _ a b G s x) ([],mx) ⟨by simp,by simp,by simp⟩
 have hr0:=hr (2000128,2000240);generalize g (2000128,2000240)=y at*;obtain⟨v,n⟩:=y;have el:((G.foldl (mw a b) ([],mx)).1.map ah).length=(G.foldl (mw a b) ([],mx)).1.length:=by simp
 generalize G.foldl (mw a b) ([],mx)=R at*;obtain⟨L,nx⟩:=R;have ez:((0:Nat):Int)=0:=rfl;simp only[B4,Nt,Kk,ez,bF,dM] at hr0;simp only at el ⊢;simp only[af,ae,ints] at*;generalize az G=rg at*;generalize az a.gone=ga at*;generalize az b.gone=gb at*;generalize a.ae.map ah=ra at*;generalize b.ae.map ah=rb at*;generalize L.map ah=rl at*;simp (maxSteps:=9^9) [ba,da.m,da.b,ab,hr0,h1,h2,el,aa]
theorem Gz(t w u x:Int)(p:Prop):(ll u x t w=true∨ll t w u x=false∧p)↔(ll u x t w=true∨(t=u∧w=x)∧p):=by
 simp only[uY,zo];by_cases hp:p
 ·simp only[hp,and_true];omega
 ·simp only[hp,and_false,or_false]
theorem Ap(a b:bA):iv a b=if a.gid=b.gid then
  {gid:=a.gid,name:=if ll b.time b.df a.time a.df=true∨(a.time=b.time∧a.df=b.df)∧jP a.name b.name=true then b.name else a.name,
   time:=if ll b.time b.df a.time a.df=true∨(a.time=b.time∧a.df=b.df)∧jP a.name b.name=true then b.time else a.time,
   df:=if ll b.time b.df a.time a.df=true∨(a.time=b.time∧a.df=b.df)∧jP a.name b.name=true then b.df else a.df,
   next:=(jx a b).2,ae:=(jx a b).1,gone:=aR a.gone b.gone} else a:=by
 unfold iv;simp only[Gz a.time a.df b.time b.df]
theorem eV.al(h:eV.k M)(a b:bA)(H:yB a b):run M 405 [.a (af a),.a (af b)] []=some (.a (cm (iv a b)),[]):=by
 obtain⟨h0,kg,kc,kl,kj⟩:=h;have h1:=cd.al kc a H.ia;have h2:=aU.al kg a.gone b.gone H.ia.g H.ib.g;have h3:=iB.al kl b.time b.df a.time a.df;have h5:=da.al kj a b H.ia H.ib H.xa H.xb;have e1:(aR a.gone b.gone).length≤4194304:=by
  have:=kG a.gone b.gone;have:=H.ia.g;have:=H.ib.g;omega
 have e2:=aN (aR a.gone b.gone);have e3:((jx a b).1.map ah).length=(jx a b).1.length:=by simp
 have e4:(a.ae.map ah).length=a.ae.length:=by simp
 have e5:=aN a.gone;have e6:=vt a.name b.name;refine aA (b:=eV.m) h0 ⟨0, ?_⟩;rw[Ap];by_cases c:a.gid=b.gid
 ·rw[if_pos c];simp only[af,cm,ae,ints] at*;rw[c] at h5;generalize hx:ll b.time b.df a.time a.df=x at*;generalize hw:jP a.name b.name=w at*;generalize (jx a b).1.map ah=rj at*;generalize (jx a b).1.length=nj at*;generalize (jx a b).2=xj at*;generalize az (aR a.gone b.gone)=gj at*;generalize a.ae.map ah=ra at*;generalize b.ae.map ah=rb at*;generalize az a.gone=ga at*;generalize az b.gone=gb at*;clear hx hw;obtain⟨ag,an,at',aw,anx,am,ago⟩:=a;obtain⟨bg,bn,bt,bw,bnx,bm,bgo⟩:=b;simp only at*;cases x
  ·by_cases c2:at'=bt
   ·subst c2;by_cases c3:aw=bw
    ·subst c3;cases w<;>simp (maxSteps:=9^9) [ba,eV.m,eV.b,ab,setAt,h2,h3,h5,c,e2,e3,e6,aa]
    ·simp (maxSteps:=9^9) [ba,eV.m,eV.b,ab,setAt,h2,h3,h5,c,c3,e2,e3,aa]
   ·simp (maxSteps:=9^9) [ba,eV.m,eV.b,ab,setAt,h2,h3,h5,c,c2,e2,e3,aa]
  ·simp (maxSteps:=9^9) [ba,eV.m,eV.b,ab,setAt,h2,h3,h5,c,e2,e3,aa]
 ·rw[if_neg c];simp only[af,cm,ae,ints] at*;generalize a.ae.map ah=ra at*;generalize b.ae.map ah=rb at*;generalize az a.gone=ga at*;generalize az b.gone=gb at*;simp (maxSteps:=9^9) [ba,eV.m,eV.b,ab,setAt,h1,c,e4,e5,aa]
deriving instance DecidableEq for nE
deriving instance DecidableEq for bp
deriving instance DecidableEq for bA
theorem uy{α:Type}[DecidableEq α](la lb:List α)(hl:la.length=lb.length){f:St→Option (Out×St)}{β:Type}(S:Nat→β→St)(c e:Nat)(E:β→St)
  (h1:∀i (h:i<la.length) (h':i<lb.length) x,la[i]=lb[i]→∃y,f (S i x)=some (.normal,S (i+1) y))
  (h2:∀i (h:i<la.length) (h':i<lb.length) x,¬la[i]=lb[i]→∃n,f (S i x)=some (.ret,{t:=[(c,.c (.bool false))],o:=[],n:=n}))
  (h3:∀x,∃y,f (S la.length x)=some (.exit e,E y)):
  ∃g:β→β×Nat,∀x,eZ f (la.length+1) (S 0 x)=some (if la=lb then(.exit e,E (g x).1) else(.ret,{t:=[(c,.c (.bool false))],o:=[],n:=(g x).2})):=by
 have key:=jS (f:=f) S (fun i=>i≤la.length) (fun i=>la.length-i) (fun i=>decide (la.drop i=lb.drop i))
  (fun q (m:β×Nat)=>if q=true then(.exit e,E m.1) else(.ret,{t:=[(c,.c (.bool false))],o:=[],n:=m.2})) (by
   intro i x hi;by_cases hlt:i<la.length
   ·have hlt':i<lb.length:=by omega
    have hd:(la.drop i=lb.drop i)↔(la[i]=lb[i]∧la.drop (i+1)=lb.drop (i+1)):=by
     rw[bD hlt,bD hlt',List.cons.injEq]
    by_cases c':la[i]=lb[i]
    ·obtain⟨y,hy⟩:=h1 i hlt hlt' x c';exact .inl ⟨i+1,y,hy,hlt,by omega,by rw[decide_eq_decide,hd];simp[c']⟩
    ·obtain⟨n,hn⟩:=h2 i hlt hlt' x c';have hf:decide (la.drop i=lb.drop i)=false:=decide_eq_false fun q=>c' (hd.1 q).1
     exact .inr ⟨(x,n),by rw[hn,hf];simp,by rw[hf];simp⟩
   ·have:i=la.length:=by omega
    subst this;obtain⟨y,hy⟩:=h3 x;have hd:lb.drop la.length=[]:=eO (by omega);exact .inr ⟨(y,0),by rw[hy];simp[hd],by simp[hd]⟩) (la.length+1) 0 (Nat.zero_le _) (by omega)
 obtain⟨g,hg⟩:=key;refine⟨g,fun x=> ?_⟩;rw[hg x];simp only[List.drop_zero,decide_eq_true_eq]
theorem IC{x y:nE}(h1:x.val=y.val)(h2:x.time=y.time)(h3:x.df=y.df):x=y:=by
 cases x;cases y;simp_all
theorem Gu{x y:bp}(h1:x.gid=y.gid)(h2:x.uid=y.uid)(h3:x.flags=y.flags)(h4:x.text=y.text):x=y:=by
 cases x;cases y;simp_all
theorem JO{x y:bA}(h1:x.gid=y.gid)(h2:x.name=y.name)(h3:x.time=y.time)(h3':x.df=y.df)(h4:x.next=y.next)(h5:x.ae=y.ae)(h6:x.gone=y.gone):x=y:=by
 cases x;cases y;simp_all
def LV(a b:bp)(i:Nat)(x:Nat×Nat×Nat):St:={t:=[(2,.c (.ptr 2 x.1 0 0)),(3,.c (.ptr 3 x.2.1 0 0)),(5,.c (I i))],o:=[(2,⟨x.1,4,true,true,[ah a]⟩),(3,⟨x.2.1,4,true,true,[ah b]⟩)],n:=x.2.2}
def Oa(a b:bp)(x:Nat×Nat×Nat):St:={t:=[(2,.c (.ptr 2 x.1 0 0)),(3,.c (.ptr 3 x.2.1 0 0)),(5,.c (I a.flags.length)),(38,.c (.bool false))],o:=[(2,⟨x.1,4,true,true,[ah a]⟩),(3,⟨x.2.1,4,true,true,[ah b]⟩)],n:=x.2.2}
theorem cq.al(h:cq.k M)(a b:bp)(ha:a.flags.length≤1048576):run M 159 [.a (ah a),.a (ah b)] []=some (.c (.bool (decide (a=b))),[]):=by
 refine aA (b:=cq.m) h ⟨a.flags.length+1, ?_⟩;by_cases c1:a.gid=b.gid;rotate_left
 ·have hne:¬a=b:=fun q=>c1 (by rw[q])
  simp[ba,cq.m,cq.b,ab,c1,hne]
 by_cases c2:a.uid=b.uid;rotate_left
 ·have hne:¬a=b:=fun q=>c2 (by rw[q])
  simp[ba,cq.m,cq.b,ab,c1,c2,hne]
 by_cases c3:a.text=b.text;rotate_left
 ·have hne:¬a=b:=fun q=>c3 (by rw[q])
  simp[ba,cq.m,cq.b,ab,c1,c2,c3,hne]
 by_cases c4:a.flags.length=b.flags.length;rotate_left
 ·have hne:¬a=b:=fun q=>c4 (by rw[q])
  have c4':¬(a.flags.length:Int)=b.flags.length:=by omega
  simp[ba,cq.m,cq.b,ab,c1,c2,c3,c4',hne]
 obtain⟨g,hr⟩:=uy a.flags b.flags c4 (f:=ct (run M) (a.flags.length+1) cq.l0) (LV a b) 4 0 (Oa a b)
  (fun i hi hi' x c=>by
   obtain⟨v,w,x⟩:=x;have e5:=cA (i:=i) (by omega);simp only[aE];simp[LV,cq.l0,hi,hi',e5,aS,tR,B6,c])
  (fun i hi hi' x c=>by
   obtain⟨v,w,x⟩:=x;by_cases q1:a.flags[i].val=b.flags[i].val<;>by_cases q2:a.flags[i].time=b.flags[i].time<;>by_cases q3:a.flags[i].df=b.flags[i].df<;>
    first
    |exact absurd (IC q1 q2 q3) c
    |simp[LV,cq.l0,hi,hi',aS,tR,B6,q1,q2,q3])
  (fun x=>by
   obtain⟨v,w,x⟩:=x;simp only[aE];simp[LV,Oa,cq.l0])
 by_cases c5:a.flags=b.flags
 ·have he:a=b:=Gu c1 c2 c5 c3;simp only[c5,if_true] at hr;simp[LV,Oa,ah,←c5] at hr;subst he;simp[ba,cq.m,cq.b,ab,hr]
 ·have hne:¬a=b:=fun q=>c5 (by rw[q])
  simp only[c5,if_false] at hr;simp[LV,ah,c1,c2,c3,c4] at hr;simp[ba,cq.m,cq.b,ab,ah,c1,c2,c3,c4,hr,hne]
theorem lF.al(h:lF.k M)(R:List (List T))(hl:R.length≤9223372036854775807):run M 36 [.c (.sl false 1 R)] []=some (.c (.bool (decide (1048576<R.length))),[]):=by
 refine aA (b:=lF.m) h ⟨0, ?_⟩;simp (maxSteps:=9^9) [ba,lF.m,lF.b,ab];omega
theorem zL(l:List bp):(allM l l).length=l.length:=by
 have h:(l.filter fun m=>(jW l m.gid).isNone)=[]:=List.filter_eq_nil_iff.2 fun m hm c=>by
  rw[cn] at c;exact oO.1 c m hm rfl
 simp only[allM,ax,de,h,dM,Nat.add_zero]
theorem xO{a b:bA}(ha:(fD a.ae).Nodup)(hb:(fD b.ae).Nodup):(jx a b).2≤Max.max a.next b.next+(a.ae.length+b.ae.length:Nat):=by
 rw[←qj ha hb];simp only[o9];have h1:=(nA (jv a b) (fv (·.gid) ((allM a.ae b.ae).filter fun m=> !decide (m.gid∈aR a.gone b.gone))) (Max.max a.next b.next)).2;rw[iZ] at h1;have h2:=bP (fun m:bp=> !decide (m.gid∈aR a.gone b.gone)) (allM a.ae b.ae);have h3:=D9 a.ae b.ae;omega
theorem Aj{a b:bA}(ha:(fD a.ae).Nodup)(hb:(fD b.ae).Nodup):(fD (jx a b).1).Nodup:=
 (Am ha hb).nodup_iff.2 (by
  have:=(n8 (fD a.ae) (fD b.ae)).filter (fun g=> !decide (g∈aR a.gone b.gone));exact this.imp fun h=>by omega)
theorem BX{a b:bA}(ha:Good a)(hb:Good b):yB (iv a b) (iv a b):=by
 have H:=ha.Bl hb;have hin:=tC H;have h1:(iv a b).gone.length≤500000:=by
  unfold iv;split
  ·have:=kG a.gone b.gone;have:=ha.nV;have:=hb.nV;simp only;omega
  ·exact H.ga
 have h2:(fD (iv a b).ae).Nodup:=by
  unfold iv;split
  ·exact Aj ha.nd hb.nd
  ·exact ha.nd
 have h3:(iv a b).ae.length≤20:=by
  unfold iv;split
  ·exact um H
  ·have:=ha.len;omega
 have h4: -1000000000≤(iv a b).next∧(iv a b).next≤1000000000:=by
  have q1:=xO ha.nd hb.nd;have q2:=Bm ha.nd hb.nd;have:=ha.next;have:=hb.next;have:=ha.len;have:=hb.len;unfold iv;split
  ·simp only;omega
  ·omega
 exact⟨hin,hin,h1,h1,h2,h2,by rw[zL];exact h3,h4,h4⟩
def kX(a b:List bA):List bA:=a.map fun x=>match kZ b x.gid with|some y=>iv x y|none=>x
theorem q_(a b:List bA):(kX a b).length=a.length:=by simp[kX]
def oU(a b:List bA):List bA:=kX a b++b.filter fun x=>(kZ a x.gid).isNone
def o7(acc:List bA)(x:bA):List bA:=acc++[if(acc.any fun y=>decide (y.name=x.name))=true then {x with name:=k_ x.name x.gid} else x]
def qB(l:List bA):List bA:=l.foldl o7 []
def ln(a b:List bA)(G:List Int):List bA:=qB (fv (·.gid) ((oU a b).filter fun x=> !decide (x.gid∈G)))
structure mE (l:List bA):Prop where
 len:l.length≤5
 lY:∀b∈l,Good b
structure FN where
 i:Nat
 v:Nat
 n:Nat
def FK(u5:Nat)(G:List Int)(v:Nat)(rows:List (List T)):List (Nat×Ob):=[(5,⟨u5,1,true,true,[[ints G]]⟩),(16,⟨v,7,true,false,rows⟩)]
def Jd(u5:Nat)(a b:List bA)(G:List Int)(s:FN):St:={t:=[(0,.c (boxes a)),(1,.c (boxes b)),(5,.c (.ptr 5 u5 0 0)),(7,.c (.row 16 s.v 0 s.i)),(8,.c (.fn 476 [])),(17,.c (boxes a)),(18,.c (I a.length)),(19,.c (I s.i))],o:=FK u5 G s.v (((kX a b).take s.i).map af),n:=s.n}
def MX(u5:Nat)(a b:List bA)(G:List Int)(s:FN):St:={t:=[(0,.c (boxes a)),(1,.c (boxes b)),(5,.c (.ptr 5 u5 0 0)),(7,.c (.row 16 s.v 0 s.i)),(8,.c (.fn 476 [])),(17,.c (boxes a)),(18,.c (I a.length)),(19,.c (I s.i)),(20,.c (.bool false))],o:=FK u5 G s.v (((kX a b).take s.i).map af),n:=s.n}
structure LQ (M:Nat→Option Body):Prop where
 copy:cB.k M
 join:gZ.k M
 at_:eY.k M
 del:aF.k M
 c2:fC.k M
 sort:a_.k M
 c3:fB.k M
 has:bh.k M
 c4:fA.k M
 name:cM.k M
theorem Jb(K:LQ M)(k u5:Nat)(a b:List bA)(G:List Int)(ha:mE a)(hb:mE b)(s:FN)(hs:s.i<a.length):
  ∃v' n',ct (run M) k bz.l0 (Jd u5 a b G s)=some (.normal,Jd u5 a b G ⟨s.i+1,v',n'⟩):=by
 obtain⟨i,v,n⟩:=s;simp only at hs;have hla:=ha.len;have hlb:=hb.len;have gx:=ha.lY _ (aq hs);have h1:=eY.al K.at_ b a[i].gid (by omega);have e5:=cA (i:=i) (by omega);have e6:i+1≤4294967296:=by omega
 have hl:=q_ a b;have e7:(((kX a b).take i).map af).length=i:=by simp[hl];omega
 have e9:(a.map af).length=a.length:=by simp
 have e8:((kX a b).take (i+1)).map af=((kX a b).take i).map af++[af (kX a b)[i]]:=by
  rw[iA _ _ (by rw[hl];exact hs),cg];rfl
 have a1:∀hh,(a.map af)[i]'hh=af a[i]:=by intro hh;simp
 cases hq:mc b a[i].gid with
 |none=>
  rw[hq] at h1;have h2:=cB.al K.copy a[i] gx.u_;have ef:(kX a b)[i]'(by rw[hl];exact hs)=a[i]:=by
   simp only[kX,f_,px hq]
  rw[ef] at e8;simp only[Jd,FK,e8];simp only[af,cm,boxes,ae,ints,dO] at h1 h2 a1 ⊢;generalize List.map af ((kX a b).take i)=rr at*;generalize a.map af=ra at*;generalize b.map af=rb at*;generalize a[i].ae.map ah=rm at*;generalize az a[i].gone=rg at*;generalize az G=gj at*;simp (maxSteps:=9^9) [bz.l0,ab,setAt,h1,h2,hs,e5,e6,e7,e9,a1,aa]
 |some q=>
  rw[hq] at h1;obtain⟨hq1,hq2⟩:=jk hq;have gy:=hb.lY _ (aq hq1);have h3:=gZ.al K.join a[i] b[q] (gx.Bl gy);have h2:=cB.al K.copy (iv a[i] b[q]) (tC (gx.Bl gy));have ef:(kX a b)[i]'(by rw[hl];exact hs)=iv a[i] b[q]:=by
   simp only[kX,f_,hq2]
  rw[ef] at e8;have e10:(b.map af).length=b.length:=by simp
  have a2:∀hh,(b.map af)[q]'hh=af b[q]:=by intro hh;simp
  simp only[Jd,FK,e8];simp only[af,cm,boxes,ae,ints,dO] at h1 h2 h3 a1 a2 ⊢;generalize iv a[i] b[q]=j at*;generalize List.map af ((kX a b).take i)=rr at*;generalize a.map af=ra at*;generalize b.map af=rb at*;generalize a[i].ae.map ah=rm at*;generalize az a[i].gone=rg at*;generalize b[q].ae.map ah=rmb at*;generalize az b[q].gone=rgb at*;generalize j.ae.map ah=rmj at*;generalize az j.gone=rgj at*;generalize az G=gj at*;simp (maxSteps:=9^9) [bz.l0,ab,setAt,h1,h2,h3,hs,hq1,e5,e6,e7,e9,e10,a1,a2,aa]
theorem Lf(k u5:Nat)(a b:List bA)(G:List Int)(s:FN)(hs:¬s.i<a.length):
  ∃n',ct (run M) k bz.l0 (Jd u5 a b G s)=some (.exit 0,MX u5 a b G ⟨s.i,s.v,n'⟩):=by
 obtain⟨i,v,n⟩:=s;simp only at hs;simp only[Jd,MX,FK];generalize List.map af ((kX a b).take i)=rr at*;simp only[boxes,ints];generalize a.map af=ra at*;generalize b.map af=rb at*;simp (maxSteps:=9^9) [bz.l0,ab,hs]
def nG(a b:List bA)(i:Nat):List bA:=kX a b++(b.take i).filter fun x=>(kZ a x.gid).isNone
theorem Et(a b:List bA):nG a b b.length=oU a b:=by simp[nG,oU]
theorem Ca(a b:List bA):nG a b 0=kX a b:=by simp[nG]
theorem Es(a b:List bA)(i:Nat)(hi:i≤b.length):(nG a b i).length≤a.length+i:=by
 have:=bP (fun x:bA=>(kZ a x.gid).isNone) (b.take i);simp only[nG,ax,q_];simp at this;omega
def Ja(u5:Nat)(a b:List bA)(G:List Int)(s:FN):St:={t:=[(0,.c (boxes a)),(5,.c (.ptr 5 u5 0 0)),(7,.c (.row 16 s.v 0 (nG a b s.i).length)),(8,.c (.fn 476 [])),(42,.c (boxes b)),(43,.c (I b.length)),(44,.c (I s.i))],o:=FK u5 G s.v ((nG a b s.i).map af),n:=s.n}
def MW(u5:Nat)(a b:List bA)(G:List Int)(s:FN):St:={t:=[(0,.c (boxes a)),(5,.c (.ptr 5 u5 0 0)),(7,.c (.row 16 s.v 0 (nG a b s.i).length)),(8,.c (.fn 476 [])),(42,.c (boxes b)),(43,.c (I b.length)),(44,.c (I s.i)),(45,.c (.bool false))],o:=FK u5 G s.v ((nG a b s.i).map af),n:=s.n}
theorem I9(K:LQ M)(k u5:Nat)(a b:List bA)(G:List Int)(ha:mE a)(hb:mE b)(s:FN)(hs:s.i<b.length):
  ∃v' n',ct (run M) k bz.l1 (Ja u5 a b G s)=some (.normal,Ja u5 a b G ⟨s.i+1,v',n'⟩):=by
 obtain⟨i,v,n⟩:=s;simp only at hs;have hla:=ha.len;have hlb:=hb.len;have gx:=hb.lY _ (aq hs);have h1:=eY.al K.at_ a b[i].gid (by omega);have e5:=cA (i:=i) (by omega);have hl:=Es a b i (by omega);have e7:((nG a b i).map af).length=(nG a b i).length:=by simp
 have e6:(nG a b i).length+1≤4294967296:=by omega
 have e9:(b.map af).length=b.length:=by simp
 have a1:∀hh,(b.map af)[i]'hh=af b[i]:=by intro hh;simp
 have eu:nG a b (i+1)=nG a b i++if(kZ a b[i].gid).isNone=true then [b[i]] else []:=by
  simp only[nG,iA _ _ hs,List.filter_append,bN];cases q:(kZ a b[i].gid).isNone<;>simp[q]
 cases hq:mc a b[i].gid with
 |some q=>
  rw[hq] at h1;obtain⟨hq1,hq2⟩:=jk hq;have nq:¬(q:Int)<0:=by omega
  rw[hq2] at eu;simp only[Option.isNone_some,au,if_false,dp] at eu;simp only[Ja,FK,eu];simp only[af,boxes,ae,ints,dO] at h1 a1 ⊢;generalize List.map af (nG a b i)=rr at*;generalize (nG a b i).length=nr at*;generalize a.map af=ra at*;generalize b.map af=rb at*;generalize b[i].ae.map ah=rm at*;generalize az b[i].gone=rg at*;generalize az G=gj at*;simp (maxSteps:=9^9) [bz.l1,setAt,h1,hs,nq,e5,e9,a1,aa]
 |none=>
  rw[hq] at h1;have h2:=cB.al K.copy b[i] gx.u_;rw[px hq] at eu;simp only[Option.isNone_none,if_true] at eu;simp only[Ja,FK,eu,cg,bq,bF,ax,bZ];simp only[af,cm,boxes,ae,ints,dO] at h1 h2 a1 ⊢;generalize List.map af (nG a b i)=rr at*;generalize (nG a b i).length=nr at*;generalize a.map af=ra at*;generalize b.map af=rb at*;generalize b[i].ae.map ah=rm at*;generalize az b[i].gone=rg at*;generalize az G=gj at*;simp (maxSteps:=9^9) [bz.l1,setAt,h1,h2,hs,e5,e6,e7,e9,a1,aa]
theorem Ld(k u5:Nat)(a b:List bA)(G:List Int)(s:FN)(hs:¬s.i<b.length):
  ∃n',ct (run M) k bz.l1 (Ja u5 a b G s)=some (.exit 2,MW u5 a b G ⟨s.i,s.v,n'⟩):=by
 obtain⟨i,v,n⟩:=s;simp only at hs;simp only[Ja,MW,FK];generalize List.map af (nG a b i)=rr at*;simp only[boxes,ints];generalize a.map af=ra at*;generalize b.map af=rb at*;simp (maxSteps:=9^9) [bz.l1,hs]
def pX(acc:List bA)(x:bA):bA:=if(acc.any fun y=>decide (y.name=x.name))=true then {x with name:=k_ x.name x.gid} else x
theorem qN(acc:List bA)(x:bA):o7 acc x=acc++[pX acc x]:=rfl
theorem Gi(l:List bA)(x:bA):qB (l++[x])=qB l++[pX (qB l) x]:=by
 unfold qB;rw[List.foldl_append];rfl
theorem t_:∀(l acc:List bA),(l.foldl o7 acc).length=acc.length+l.length
 |[],acc=>by simp
 |x::l,acc=>by
  rw[fa,t_ l,qN];simp;omega
theorem lC(l:List bA):(qB l).length=l.length:=by unfold qB;rw[t_];simp
def jL(l:List bA)(i:Nat):List bA:=qB (l.take i)++l.drop i
theorem xn(l:List bA):jL l 0=l:=by simp[jL,qB]
theorem zh(l:List bA):jL l l.length=qB l:=by simp[jL]
theorem pf(l:List bA)(i:Nat):(jL l i).length=l.length:=by
 simp only[jL,ax,lC,eD,List.length_drop];omega
theorem xp(l:List bA)(i:Nat)(h:i<l.length):(jL l i)[i]'(by rw[pf];exact h)=l[i]:=by
 have e:(qB (l.take i)).length=i:=by rw[lC];simp;omega
 simp only[jL];rw[List.getElem_append_right (by omega)];simp[e]
theorem xo(l:List bA)(i:Nat)(h:i<l.length):jL l (i+1)=(jL l i).set i (pX (qB (l.take i)) l[i]):=by
 have e:(qB (l.take i)).length=i:=by rw[lC];simp;omega
 have hd:l.drop i=l[i]::l.drop (i+1):=bD h;simp only[jL,iA l i h,Gi];rw[List.set_append_right _ _ (by omega),e,Nat.sub_self];simp;rw[hd];rfl
def Kl(L:List bA)(Z:List (List T))(s:FN):St:={t:=[(7,.c (.row 16 s.v 0 L.length)),(65,.c (.row 16 s.v 0 L.length)),(66,.c (I L.length)),(67,.c (I s.i))],o:=[(16,⟨s.v,7,true,false,(jL L s.i).map af++Z⟩)],n:=s.n}
def MV(L:List bA)(Z:List (List T))(s:FN):St:={t:=[(7,.c (.row 16 s.v 0 L.length)),(65,.c (.row 16 s.v 0 L.length)),(66,.c (I L.length)),(67,.c (I s.i)),(68,.c (.bool false))],o:=[(16,⟨s.v,7,true,false,(jL L s.i).map af++Z⟩)],n:=s.n}
theorem I7(K:LQ M)(k:Nat)(L:List bA)(Z:List (List T))(hL:L.length≤1048576)(hb:∀b∈L,b.name.length≤1048576∧b.gid≤9223372036854775807)(s:FN)(hs:s.i<L.length):
  ∃n',ct (run M) k bz.l2 (Kl L Z s)=some (.normal,Kl L Z ⟨s.i+1,s.v,n'⟩):=by
 obtain⟨i,v,n⟩:=s;simp only at hs;have hx:=hb _ (aq hs);have hr1:(qB (L.take i)).length=i:=by rw[lC];simp;omega
 have h1:=bh.al K.has (fun y=>fA.al K.c4 y L[i]) (qB (L.take i)) (by omega);have h2:=cM.al K.name L[i].name L[i].gid hx.1 hx.2;have e5:=cA (i:=i) (by omega);have el:((jL L i).map af).length=L.length:=by simp[pf]
 have e7:i<((jL L i).map af++Z).length:=by simp[pf];omega
 have e8:i≤((jL L i).map af++Z).length:=by omega
 have a1:∀hh,((jL L i).map af++Z)[i]'hh=af L[i]:=by
  intro hh;rw[List.getElem_append_left (by omega)];simp only[f_,xp L i hs]
 have e9:((jL L i).map af++Z).take i=(qB (L.take i)).map af:=by
  rw[List.take_append_of_le_length (by omega),←List.map_take];congr 1;simp only[jL];rw[List.take_append_of_le_length (by omega)];exact aa (by omega)
 have t3:(jL L (i+1)).map af++Z=((jL L i).map af++Z).set i (af (pX (qB (L.take i)) L[i])):=by
  rw[xo L i hs,iU,List.set_append_left _ _ (by omega)]
 have e10:i≤L.length:=by omega
 simp only[Kl,t3];clear t3 el;unfold pX;generalize (qB (L.take i)).any (fun y=>decide (y.name=L[i].name))=w at*;simp only[boxes] at h1;generalize (qB (L.take i)).map af=rp at*;generalize (jL L i).map af++Z=rr at*;generalize k_ L[i].name L[i].gid=nm at*;simp only[af,ae,ints] at h1 a1 ⊢;generalize L[i]=x at*;generalize L.length=N at*;generalize hm:x.ae.map ah=rm at*;generalize hg:az x.gone=rg at*;cases w
 ·simp only[au,if_false];rw[hm,hg];have e11:rr.set i [I x.gid,S x.name,I x.time,I x.df,I x.next,T.sl false 4 rm,T.sl false 1 rg]=rr:=by
   rw[←a1 e7,List.set_getElem_self]
  rw[e11];simp (maxSteps:=9^9) [bz.l2,setAt,hs,h1,e5,e7,e8,e9,e10,a1,aa]
 ·simp only[if_true];rw[hm,hg];simp (maxSteps:=9^9) [bz.l2,setAt,hs,h1,h2,e5,e7,e8,e9,e10,a1,aa]
theorem Lc(k:Nat)(L:List bA)(Z:List (List T))(s:FN)(hs:¬s.i<L.length):
  ∃n',ct (run M) k bz.l2 (Kl L Z s)=some (.exit 4,MV L Z ⟨s.i,s.v,n'⟩):=by
 obtain⟨i,v,n⟩:=s;simp only at hs;simp only[Kl,MV];generalize (jL L i).map af++Z=rr at*;simp (maxSteps:=9^9) [bz.l2,hs]
theorem Jc(K:LQ M)(k u5:Nat)(a b:List bA)(G:List Int)(ha:mE a)(hb:mE b)(v n:Nat)(hk:a.length<k):
  ∃v' n',eZ (ct (run M) k bz.l0) k (Jd u5 a b G ⟨0,v,n⟩)=some (.exit 0,MX u5 a b G ⟨a.length,v',n'⟩):=by
 obtain⟨r,hr,⟨⟨i,v',n'⟩,rfl,hi⟩⟩:=kW (f:=ct (run M) k bz.l0) (Jd u5 a b G) (fun s=>s.i≤a.length) (fun s=>a.length-s.i) (fun r=>∃s',r=(.exit 0,MX u5 a b G s')∧s'.i=a.length)
  (fun s hs=>by
   by_cases c:s.i<a.length
   ·left;obtain⟨v',n',hh⟩:=Jb K k u5 a b G ha hb s c;exact⟨_,hh,by simp only;omega,by simp only;omega⟩
   ·right;obtain⟨n',hh⟩:=Lf (M:=M) k u5 a b G s c;exact⟨_,hh,by simp,_,rfl,by simp only;omega⟩) k ⟨0,v,n⟩ (by simp) (by simp only;omega)
 simp only at hi;subst hi;exact⟨v',n',hr⟩
theorem I_(K:LQ M)(k u5:Nat)(a b:List bA)(G:List Int)(ha:mE a)(hb:mE b)(v n:Nat)(hk:b.length<k):
  ∃v' n',eZ (ct (run M) k bz.l1) k (Ja u5 a b G ⟨0,v,n⟩)=some (.exit 2,MW u5 a b G ⟨b.length,v',n'⟩):=by
 obtain⟨r,hr,⟨⟨i,v',n'⟩,rfl,hi⟩⟩:=kW (f:=ct (run M) k bz.l1) (Ja u5 a b G) (fun s=>s.i≤b.length) (fun s=>b.length-s.i) (fun r=>∃s',r=(.exit 2,MW u5 a b G s')∧s'.i=b.length)
  (fun s hs=>by
   by_cases c:s.i<b.length
   ·left;obtain⟨v',n',hh⟩:=I9 K k u5 a b G ha hb s c;exact⟨_,hh,by simp only;omega,by simp only;omega⟩
   ·right;obtain⟨n',hh⟩:=Ld (M:=M) k u5 a b G s c;exact⟨_,hh,by simp,_,rfl,by simp only;omega⟩) k ⟨0,v,n⟩ (by simp) (by simp only;omega)
 simp only at hi;subst hi;exact⟨v',n',hr⟩
theorem I8(K:LQ M)(k:Nat)(L:List bA)(Z:List (List T))(hL:L.length≤1048576)(hb:∀b∈L,b.name.length≤1048576∧b.gid≤9223372036854775807)(v n:Nat)(hk:L.length<k):
  ∃n',eZ (ct (run M) k bz.l2) k (Kl L Z ⟨0,v,n⟩)=some (.exit 4,MV L Z ⟨L.length,v,n'⟩):=by
 obtain⟨r,hr,⟨⟨i,v',n'⟩,rfl,hi,hv⟩⟩:=kW (f:=ct (run M) k bz.l2) (Kl L Z) (fun s=>s.i≤L.length∧s.v=v) (fun s=>L.length-s.i) (fun r=>∃s',r=(.exit 4,MV L Z s')∧s'.i=L.length∧s'.v=v)
  (fun s hs=>by
   by_cases c:s.i<L.length
   ·left;obtain⟨n',hh⟩:=I7 K k L Z hL hb s c;exact⟨_,hh,⟨by simp only;omega,hs.2⟩,by simp only;omega⟩
   ·right;obtain⟨n',hh⟩:=Lc (M:=M) k L Z s c;have:=hs.1;exact⟨_,hh,by simp,_,rfl,by simp only;omega,hs.2⟩) k ⟨0,v,n⟩ ⟨by simp,rfl⟩ (by simp only;omega)
 simp only at hi hv;subst hi;subst hv;exact⟨n',hr⟩
theorem lu{l:List bA}{g:Int}{b:bA}(h:kZ l g=some b):b∈l∧b.gid=g:=⟨List.mem_of_find?_eq_some h,by simpa using List.find?_some h⟩
theorem BV{a b:List bA}(x:bA)(h:x∈oU a b):x∈a∨x∈b∨∃y∈a,∃z∈b,y.gid=z.gid∧x=iv y z:=by
 rcases List.mem_append.1 h with q|q
 ·obtain⟨y,hy,e⟩:=List.mem_map.1 q;cases hz:kZ b y.gid with
  |none=>rw[hz] at e;simp only at e;subst e;exact .inl hy
  |some z=>
   rw[hz] at e;simp only at e;obtain⟨h1,h2⟩:=lu hz;exact .inr (.inr ⟨y,hy,z,h1,h2.symm,e.symm⟩)
 ·exact .inr (.inl (List.mem_filter.1 q).1)
theorem qX(a b:bA):(iv a b).name=a.name∨(iv a b).name=b.name:=by
 unfold iv;split
 ·simp only;split
  ·exact .inr rfl
  ·exact .inl rfl
 ·exact .inl rfl
theorem oQ(a b:bA):(iv a b).gid=a.gid:=by unfold iv;split<;>rfl
theorem Dg{a b:List bA}(ha:mE a)(hb:mE b)(x:bA)(h:x∈oU a b):x.name.length≤12∧x.gid≤9999:=by
 have hg:∀{c:bA},Good c→c.name.length≤12∧c.gid≤9999:=fun {c} hc=>⟨(mZ hc.name).2,hc.gid.2⟩
 rcases BV x h with q|q|⟨y,hy,z,hz,e,rfl⟩
 ·exact hg (ha.lY x q)
 ·exact hg (hb.lY x q)
 ·have h1:=hg (ha.lY y hy);have h2:=hg (hb.lY z hz);rw[oQ];rcases qX y z with q|q<;>rw[q]
  ·exact h1
  ·exact⟨h2.1,h1.2⟩
theorem BW(a b:List bA):(oU a b).length≤a.length+b.length:=by
 have:=bP (fun x:bA=>(kZ a x.gid).isNone) b;simp only[oU,ax,q_];omega
theorem bz.al(h:bz.k M)(a b:List bA)(G:List Int)(ha:mE a)(hb:mE b)(hG:G.length≤4194304):
  run M 467 [.c (boxes a),.c (boxes b),.c (ints G)] []=some (.c (.sl true 7 ((ln a b G).map af)),[]):=by
 obtain⟨h0,k1,k2,k3,k4,k5,k6,k7,k8,k9,k10⟩:=h;have K:LQ M:=⟨k1,k2,k3,k4,k5,k6,k7,k8,k9,k10⟩;have hla:=ha.len;have hlb:=hb.len;refine aA (b:=bz.m) h0 ⟨a.length+b.length+21, ?_⟩;generalize hk:a.length+b.length+21=k;obtain⟨v1,n1,r1⟩:=Jc K k 2000000 a b G ha hb 2000032 2000128 (by omega);obtain⟨v2,n2,r2⟩:=I_ K k 2000000 a b G ha hb v1 (n1+48) (by omega);have hc2:=fun x=>fC.al k5 x G hG
 have hal:=BW a b;have h5:=aF.al k4 hc2 (oU a b) (by omega);have hkl:((oU a b).filter fun x=> !decide (x.gid∈G)).length≤(oU a b).length:=bP _ _;have hnm:∀x∈fv (fun x:bA=>x.gid) ((oU a b).filter fun x=> !decide (x.gid∈G)),x.name.length≤1048576∧x.gid≤9223372036854775807:=fun x hx=>by
  have:=Dg ha hb x (List.mem_filter.1 (qJ.1 hx)).1;omega
 unfold ln;generalize hz:List.replicate ((oU a b).length-((oU a b).filter fun x=> !decide (x.gid∈G)).length) tf=Z at*;generalize hl1:((oU a b).filter fun x=> !decide (x.gid∈G))=l1 at*;have h6:=a_.al k6 (k:=fun x:bA=>x.gid) (fB.al k7) l1 Z (by omega);have hl2:(fv (fun x:bA=>x.gid) l1).length=l1.length:=iZ _;generalize hs2:fv (fun x:bA=>x.gid) l1=l2 at*;obtain⟨n3,r3⟩:=I8 K k l2 Z (by omega) hnm v2 (n2+64+32+48) (by omega);have el0:((oU a b).map af).length=(oU a b).length:=by simp
 have el1:l1.length≤(l1.map af++Z).length:=by simp
 have el2:l1.length≤(l2.map af++Z).length:=by simp[hl2]
 have el4:l1.length≤((qB l2).map af++Z).length:=by simp[lC,hl2]
 have el5:(((qB l2).map af++Z).take l1.length)=(qB l2).map af:=by
  rw[List.take_append_of_le_length (by simp[lC,hl2])];exact aa (by simp[lC,hl2])
 have hfl:=q_ a b;have ea:(a.map af).length=a.length:=by simp
 have eb:(b.map af).length=b.length:=by simp
 have ez:((0:Nat):Int)=0:=rfl;have hfa:(kX a b).take a.length=kX a b:=aa (by omega);simp only[Jd,MX,FK,List.take_zero,bF,hfa,ez] at r1;simp only[Ja,MW,FK,Ca,Et,hfl,ez] at r2;have hra:jL l2 l1.length=qB l2:=by rw[←hl2];exact zh l2
 simp only[Kl,MV,xn,ez,hl2,hra] at r3;simp only[sV,dp] at h5 h6;generalize (qB l2).map af=R4 at*;generalize R4++Z=R4Z at*;generalize l2.map af++Z=R2Z at*;generalize l1.map af++Z=R1Z at*;clear hl1 hs2 hz hc2 K hnm hl2 hra;generalize (oU a b).map af=R0 at*;generalize (oU a b).length=N0 at*;generalize (kX a b).map af=RF at*;generalize l1.length=N1 at*;simp only[boxes,ints] at*;generalize a.map af=ra at*;generalize b.map af=rb at*;generalize az G=rg at*;simp (maxSteps:=9^9) [ba,bz.m,bz.b,ab,r1,r2,r3,h5,h6,ea,eb,el0,el1,el4,el5]
def fR(l:List bA):List Int:=l.map (·.gid)
theorem xY(l:List bA)(s:List Int):l.foldl (fun s m=>kC s m.gid) s=(fR l).foldl kC s:=by
 simp only[fR,List.foldl_map]
def L5(a b:List bA)(G:List Int)(i:Nat)(s:List Int)(x:Nat×Nat):St:={t:=[(0,.c (boxes a)),(1,.c (boxes b)),(2,.c (ints G)),(7,.c (.row 16 x.1 0 s.length)),(8,.c (I i))],o:=[(16,⟨x.1,1,true,false,az s⟩)],n:=x.2}
def NG(a b:List bA)(G:List Int)(s:List Int)(x:Nat×Nat):St:={t:=[(0,.c (boxes a)),(1,.c (boxes b)),(2,.c (ints G)),(7,.c (.row 16 x.1 0 s.length)),(8,.c (I a.length)),(20,.c (.bool false))],o:=[(16,⟨x.1,1,true,false,az s⟩)],n:=x.2}
def L4(a b:List bA)(G:List Int)(i:Nat)(s:List Int)(x:Nat×Nat):St:={t:=[(0,.c (boxes a)),(1,.c (boxes b)),(2,.c (ints G)),(7,.c (.row 16 x.1 0 s.length)),(9,.c (I i))],o:=[(16,⟨x.1,1,true,false,az s⟩)],n:=x.2}
def NF(a b:List bA)(G:List Int)(s:List Int)(x:Nat×Nat):St:={t:=[(0,.c (boxes a)),(1,.c (boxes b)),(2,.c (ints G)),(7,.c (.row 16 x.1 0 s.length)),(9,.c (I b.length)),(41,.c (.bool false))],o:=[(16,⟨x.1,1,true,false,az s⟩)],n:=x.2}
theorem IV(kin:bj.k M)(kput:b9.k M)(k:Nat)(a b:List bA)(G:List Int)(ha:a.length≤5)(hk:a.length<k)(x:Nat×Nat):
  ∃y,eZ (ct (run M) k aY.l0) k (L5 a b G 0 [] x)=some (.exit 0,NG a b G (a.foldl (fun s m=>kC s m.gid) []) y):=by
 obtain⟨g,hr⟩:=jK (f:=ct (run M) k aY.l0) a (fun s m=>kC s m.gid) (fun i s=>s.length≤i) (L5 a b G) 0 (NG a b G)
  (fun i h s hs=>by have:=sH s a[i].gid;omega)
  (fun i hi s x hs=>by
   obtain⟨v,n⟩:=x;have e5:=cA (i:=i) (by omega);have e9:=aN s;have hra:(a.map af).length=a.length:=by simp
   have h1:=bj.al kin s a[i].gid (by omega);have h2:=b9.al kput s a[i].gid (by omega);have a1:∀hh,(a.map af)[i]'hh=af a[i]:=by intro hh;simp
   have e10:=aN (ld s a[i].gid);have hfl:=kY (ld s a[i].gid);simp only[aE,kC];by_cases c:a[i].gid∈s
   ·rw[decide_eq_true c] at h1;rw[if_pos c];simp only[L5];simp only[af,boxes,ae,ints] at a1 h1 ⊢;generalize az s=rs at*;generalize a.map af=ra at*;generalize b.map af=rb at*;simp (maxSteps:=9^9) [aY.l0,hra,hi,h1,a1,e5,e9,aa]
   ·rw[decide_eq_false c] at h1;rw[if_neg c];simp only[L5];simp only[af,boxes,ae,ints] at a1 h1 h2 ⊢;generalize az (ld s a[i].gid)=rp at*;generalize az s=rs at*;generalize a.map af=ra at*;generalize b.map af=rb at*;simp (maxSteps:=9^9) [aY.l0,hra,hi,h1,h2,a1,e5,e9,e10,hfl,aa])
  (fun s x hs=>by
   obtain⟨v,n⟩:=x;have hra:(a.map af).length=a.length:=by simp
   simp only[aE,L5,NG,boxes,ints];generalize a.map af=ra at*;generalize b.map af=rb at*;simp (maxSteps:=9^9) [aY.l0,hra]) [] (by simp)
 exact⟨_,gT (hr x) (by omega)⟩
theorem IU(kin:bj.k M)(kput:b9.k M)(k:Nat)(a b:List bA)(G:List Int)(hb:b.length≤5)(hk:b.length<k)(s0:List Int)(h0:s0.length≤5)(x:Nat×Nat):
  ∃y,eZ (ct (run M) k aY.l1) k (L4 a b G 0 s0 x)=some (.exit 2,NF a b G (b.foldl (fun s m=>kC s m.gid) s0) y):=by
 obtain⟨g,hr⟩:=jK (f:=ct (run M) k aY.l1) b (fun s m=>kC s m.gid) (fun i s=>s.length≤5+i) (L4 a b G) 2 (NF a b G)
  (fun i h s hs=>by have:=sH s b[i].gid;omega)
  (fun i hi s x hs=>by
   obtain⟨v,n⟩:=x;have e5:=cA (i:=i) (by omega);have e9:=aN s;have hra:(b.map af).length=b.length:=by simp
   have h1:=bj.al kin s b[i].gid (by omega);have h2:=b9.al kput s b[i].gid (by omega);have a1:∀hh,(b.map af)[i]'hh=af b[i]:=by intro hh;simp
   have e10:=aN (ld s b[i].gid);have hfl:=kY (ld s b[i].gid);simp only[aE,kC];by_cases c:b[i].gid∈s
   ·rw[decide_eq_true c] at h1;rw[if_pos c];simp only[L4];simp only[af,boxes,ae,ints] at a1 h1 ⊢;generalize az s=rs at*;generalize a.map af=ra at*;generalize b.map af=rb at*;simp (maxSteps:=9^9) [aY.l1,hra,hi,h1,a1,e5,e9,aa]
   ·rw[decide_eq_false c] at h1;rw[if_neg c];simp only[L4];simp only[af,boxes,ae,ints] at a1 h1 h2 ⊢;generalize az (ld s b[i].gid)=rp at*;generalize az s=rs at*;generalize a.map af=ra at*;generalize b.map af=rb at*;simp (maxSteps:=9^9) [aY.l1,hra,hi,h1,h2,a1,e5,e9,e10,hfl,aa])
  (fun s x hs=>by
   obtain⟨v,n⟩:=x;have hra:(b.map af).length=b.length:=by simp
   simp only[aE,L4,NF,boxes,ints];generalize a.map af=ra at*;generalize b.map af=rb at*;simp (maxSteps:=9^9) [aY.l1,hra]) s0 (by omega)
 exact⟨_,gT (hr x) (by omega)⟩
def mC(a b:List bA)(g:Int):bA:=match kZ a g,kZ b g with
 |some x,some y=>iv x y
 |some x,none=>x
 |none,some y=>y
 |none,none=>⟨0,[],0,0,0,[],[]⟩
def y8(a b:List bA)(G:List Int)(out:List bA)(g:Int):List bA:=if g∈G then out else out++[mC a b g]
def HV(a b:List bA)(G gs:List Int)(v16:Nat)(i:Nat)(out:List bA)(x:Nat×Nat):St:={t:=[(0,.c (boxes a)),(1,.c (boxes b)),(2,.c (ints G)),(7,.c (.row 16 v16 0 gs.length)),(10,.c (.row 59 x.1 0 out.length)),(11,.c (I i))],o:=[(16,⟨v16,1,true,false,az gs⟩),(59,⟨x.1,7,true,false,out.map af⟩)],n:=x.2}
def ND(a b:List bA)(G gs:List Int)(v16:Nat)(out:List bA)(x:Nat×Nat):St:={t:=[(0,.c (boxes a)),(1,.c (boxes b)),(2,.c (ints G)),(7,.c (.row 16 v16 0 gs.length)),(10,.c (.row 59 x.1 0 out.length)),(11,.c (I gs.length)),(63,.c (.bool false))],o:=[(16,⟨v16,1,true,false,az gs⟩),(59,⟨x.1,7,true,false,out.map af⟩)],n:=x.2}
structure O1 (M:Nat→Option Body):Prop where
 HY:bj.k M
 copy:cd.k M
 join:eV.k M
 at_:gk.k M
theorem K8(k:Nat)(a b:List bA)(G gs:List Int)(v16:Nat)(out:List bA)(x:Nat×Nat):
  ∃y,ct (run M) k aY.l2 (HV a b G gs v16 gs.length out x)=some (.exit 4,ND a b G gs v16 out y):=by
 obtain⟨v,n⟩:=x;simp only[aE,HV,ND,boxes,ints];generalize a.map af=ra at*;generalize b.map af=rb at*;generalize out.map af=ro at*;simp (maxSteps:=9^9) [aY.l2,ab]
theorem IT(K:O1 M)(k:Nat)(a b:List bA)(ha:mE a)(hb:mE b)(G gs:List Int)(hG:G.length≤4194304)(hgs:gs.length≤100)(hmem:∀g∈gs,g∈fR a∨g∈fR b)(v16 i:Nat)(hi:i<gs.length)(out:List bA)(ho:out.length≤i)(x:Nat×Nat):
  ∃y,ct (run M) k aY.l2 (HV a b G gs v16 i out x)=some (.normal,HV a b G gs v16 (i+1) (y8 a b G out gs[i]) y):=by
 obtain⟨v,n⟩:=x;have hla:=ha.len;have hlb:=hb.len;have h1:=bj.al K.HY G gs[i] (by omega);have h2:=gk.al K.at_ a gs[i] (by omega);have h3:=gk.al K.at_ b gs[i] (by omega);have e5:=cA (i:=i) (by omega);have e6:out.length+1≤4294967296:=by omega
 have eg:=aN gs;have a0:∀hh,(az gs)[i]'hh=[I gs[i]]:=by intro hh;simp[az]
 have eo:(out.map af).length=out.length:=by simp
 have ea:(a.map af).length=a.length:=by simp
 have eb:(b.map af).length=b.length:=by simp
 simp only[aE];unfold y8;by_cases c:gs[i]∈G
 ·rw[decide_eq_true c] at h1;rw[if_pos c];simp only[HV];simp only[boxes,ints] at*;generalize az gs=rg at*;generalize az G=rG at*;generalize a.map af=ra at*;generalize b.map af=rb at*;generalize out.map af=ro at*;simp (maxSteps:=9^9) [aY.l2,ab,hi,h1,e5,eg,a0]
 ·rw[decide_eq_false c] at h1;rw[if_neg c];cases hp:mc a gs[i] with
  |some p=>
   obtain⟨p1,p2⟩:=jk hp;have gp:=ha.lY _ (aq p1);have a1:∀hh,(a.map af)[p]'hh=af a[p]:=by intro hh;simp
   rw[hp] at h2;cases hq:mc b gs[i] with
   |some q=>
    obtain⟨q1,q2⟩:=jk hq;have gq:=hb.lY _ (aq q1);have a2:∀hh,(b.map af)[q]'hh=af b[q]:=by intro hh;simp
    rw[hq] at h3;have h4:=eV.al K.join a[p] b[q] (gp.Bl gq);have ej:mC a b gs[i]=iv a[p] b[q]:=by simp only[mC,p2,q2]
    rw[ej];simp only[HV,cg,bq,bF,ax,bZ];simp only[af,cm,boxes,ae,ints,dO] at h1 h2 h3 h4 a1 a2 ⊢;generalize iv a[p] b[q]=j at*;generalize az gs=rg at*;generalize az G=rG at*;generalize a.map af=ra at*;generalize b.map af=rb at*;generalize out.map af=ro at*;generalize a[p].ae.map ah=r1 at*;generalize az a[p].gone=r2 at*;generalize b[q].ae.map ah=r3 at*;generalize az b[q].gone=r4 at*;generalize j.ae.map ah=r5 at*;generalize az j.gone=r6 at*;simp (maxSteps:=9^9) [aY.l2,ab,hi,p1,q1,h1,h2,h3,h4,e5,e6,eg,a0,a1,a2,eo,ea,eb,aa]
   |none=>
    rw[hq] at h3;have h4:=cd.al K.copy a[p] gp.u_;have ej:mC a b gs[i]=a[p]:=by simp only[mC,p2,px hq]
    rw[ej];simp only[HV,cg,bq,bF,ax,bZ];simp only[af,cm,boxes,ae,ints,dO] at h1 h2 h3 h4 a1 ⊢;generalize az gs=rg at*;generalize az G=rG at*;generalize a.map af=ra at*;generalize b.map af=rb at*;generalize out.map af=ro at*;generalize a[p].ae.map ah=r1 at*;generalize az a[p].gone=r2 at*;simp (maxSteps:=9^9) [aY.l2,ab,hi,p1,h1,h2,h3,h4,e5,e6,eg,a0,a1,eo,ea,aa]
  |none=>
   rw[hp] at h2;cases hq:mc b gs[i] with
   |some q=>
    obtain⟨q1,q2⟩:=jk hq;have gq:=hb.lY _ (aq q1);have a2:∀hh,(b.map af)[q]'hh=af b[q]:=by intro hh;simp
    rw[hq] at h3;have h4:=cd.al K.copy b[q] gq.u_;have ej:mC a b gs[i]=b[q]:=by simp only[mC,q2,px hp]
    rw[ej];simp only[HV,cg,bq,bF,ax,bZ];simp only[af,cm,boxes,ae,ints,dO] at h1 h2 h3 h4 a2 ⊢;generalize az gs=rg at*;generalize az G=rG at*;generalize a.map af=ra at*;generalize b.map af=rb at*;generalize out.map af=ro at*;generalize b[q].ae.map ah=r3 at*;generalize az b[q].gone=r4 at*;simp (maxSteps:=9^9) [aY.l2,ab,hi,q1,h1,h2,h3,h4,e5,e6,eg,a0,a2,eo,eb,aa]
   |none=>
    exfalso;have n1:=px hp;have n2:=px hq;unfold kZ at n1 n2;rw[List.find?_eq_none] at n1 n2;rcases hmem _ (aq hi) with z|z
    ·obtain⟨m,hm,e⟩:=List.mem_map.1 z;exact n1 m hm (by simp[e])
    ·obtain⟨m,hm,e⟩:=List.mem_map.1 z;exact n2 m hm (by simp[e])
def FI(v:Nat)(L:List bA)(i:Nat):List (Nat×Ob):=[(59,⟨v,7,true,false,(jL L i).map af⟩)]
def L3(v:Nat)(L:List bA)(i k:Nat)(x:Nat):St:={t:=[(10,.c (.row 59 v 0 L.length)),(14,.c (I i)),(15,.c (I k))],o:=FI v L i,n:=x}
def K7(v:Nat)(L:List bA)(i:Nat)(x:bA):Option Nat→Nat→Out×St
 |none,m=>(.exit 9,{t:=[(10,.c (.row 59 v 0 L.length)),(14,.c (I i)),(15,.c (I i)),(130,.c (.bool false))],o:=FI v L i,n:=m})
 |some _,m=>(.exit 9,{t:=[(10,.c (.row 59 v 0 L.length)),(14,.c (I i))],o:=[(59,⟨v,7,true,false,((jL L i).map af).set i (af {x with name:=k_ x.name x.gid})⟩)],n:=m})
theorem vI(L:List bA)(i k:Nat)(hk:k<i)(hi:i<L.length):(jL L i)[k]'(by rw[pf];omega)=(qB (L.take i))[k]'(by rw[lC];simp;omega):=by
 simp only[jL];rw[List.getElem_append_left]
theorem IS(kn:cE.k M)(v:Nat)(L:List bA)(hL:L.length≤1048576)(hb:∀b∈L,b.name.length≤1048576∧b.gid≤9223372036854775807)(K i:Nat)(hi:i<L.length)(hK:i<K):
  ∃g:Nat→Nat,∀x,eZ (ct (run M) K aY.l4) K (L3 v L i 0 x)=some (K7 v L i L[i] (eJ (ub (fun y:bA=>decide (y.name=L[i].name)) (qB (L.take i))) i) (g x)):=by
 have hx:=hb _ (aq hi);have hrl:(qB (L.take i)).length=i:=by rw[lC];simp;omega
 have h2:=cE.al kn L[i].name L[i].gid hx.1 hx.2;have el:((jL L i).map af).length=L.length:=by simp[pf]
 have a1:∀hh,((jL L i).map af)[i]'hh=af L[i]:=by
  intro hh;simp only[f_,xp L i hi]
 obtain⟨g,hg⟩:=m_ (f:=ct (run M) K aY.l4) i (ub (fun y:bA=>decide (y.name=L[i].name)) (qB (L.take i))) (L3 v L i) (K7 v L i L[i]) (fun q m=>by cases q<;>simp[K7])
  (fun k hk x c=>by
   rw[j2 _ _ _ (by omega)] at c;simp only[decide_eq_false_iff_not] at c;have e5:=cA (i:=k) (by omega);have hk2:k<L.length:=by omega
   have a2:∀hh,((jL L i).map af)[k]'hh=af ((qB (L.take i))[k]'(by omega)):=by
    intro hh;simp only[f_,vI L i k hk hi]
   simp only[L3,FI];simp only[af,ae,ints] at a1 a2 ⊢;generalize (qB (L.take i))[k]'(by omega)=y at*;generalize (jL L i).map af=rr at*;generalize L[i]=z at*;generalize z.ae.map ah=r1 at*;generalize az z.gone=r2 at*;generalize y.ae.map ah=r3 at*;generalize az y.gone=r4 at*;simp (maxSteps:=9^9) [aY.l4,ab,hk,hi,hk2,c,e5,el,a1,a2])
  (fun k hk x c=>by
   rw[j2 _ _ _ (by omega)] at c;simp only[decide_eq_true_eq] at c;have hk2:k<L.length:=by omega
   have a2:∀hh,((jL L i).map af)[k]'hh=af ((qB (L.take i))[k]'(by omega)):=by
    intro hh;simp only[f_,vI L i k hk hi]
   simp only[L3,K7,FI];simp only[af,ae,ints] at a1 a2 ⊢;generalize (qB (L.take i))[k]'(by omega)=y at*;generalize (jL L i).map af=rr at*;generalize L[i]=z at*;generalize k_ z.name z.gid=nm at*;generalize z.ae.map ah=r1 at*;generalize az z.gone=r2 at*;generalize y.ae.map ah=r3 at*;generalize az y.gone=r4 at*;simp (maxSteps:=9^9) [aY.l4,ab,setAt,hk,hi,hk2,c,h2,el,a1,a2])
  (fun x=>by
   simp only[L3,K7,FI];generalize (jL L i).map af=rr at*;simp (maxSteps:=9^9) [aY.l4,ab])
 exact⟨g,fun x=>gT (hg x) (by omega)⟩
theorem Ft(p:bA→Bool)(l:List bA):l.any p=(eJ (ub p l) l.length).isSome:=by
 cases q:eJ (ub p l) l.length with
 |none=>
  have hn:=mg q;have:l.any p=false:=by
   rw[List.any_eq_false];intro b hb;obtain⟨j,hj,rfl⟩:=bW hb;have:=hn j hj;rw[j2 _ _ _ hj] at this;simp[this]
  rw[this];rfl
 |some k=>
  obtain⟨h1,h2,_⟩:=mf q;rw[j2 _ _ _ h1] at h2;have:l.any p=true:=List.any_eq_true.2 ⟨_,aq h1,h2⟩;rw[this];rfl
def MF(v:Nat)(L:List bA)(i:Nat)(x:Nat):St:={t:=[(10,.c (.row 59 v 0 L.length)),(14,.c (I i))],o:=FI v L i,n:=x}
def NC(v:Nat)(L:List bA)(x:Nat):St:={t:=[(10,.c (.row 59 v 0 L.length)),(14,.c (I L.length)),(125,.c (.bool false))],o:=FI v L L.length,n:=x}
theorem IQ(kn:cE.k M)(v:Nat)(L:List bA)(hL:L.length≤1048576)(hb:∀b∈L,b.name.length≤1048576∧b.gid≤9223372036854775807)(K:Nat)(hK:L.length<K)(x:Nat):
  ∃y,eZ (ct (run M) K aY.l3) K (MF v L 0 x)=some (.exit 7,NC v L y):=by
 obtain⟨g,hr⟩:=ky (f:=ct (run M) K aY.l3) L.length (MF v L) 7 (NC v L)
  (fun i hi x=>by
   obtain⟨g,hg⟩:=IS kn v L hL hb K i hi (by omega);have e5:=cA (i:=i) (by omega);have hrl:(qB (L.take i)).length=i:=by rw[lC];simp;omega
   have hany:=Ft (fun y:bA=>decide (y.name=L[i].name)) (qB (L.take i));rw[hrl] at hany;have hs:=xo L i hi;have ez:((0:Nat):Int)=0:=rfl;have el:((jL L i).map af).length=L.length:=by simp[pf]
   have a1:((jL L i).map af)[i]'(by omega)=af L[i]:=by
    simp only[f_,xp L i hi]
   simp only[MF,FI,hs,iU];simp only[L3,FI,ez] at hg;unfold pX;rw[hany];cases hq:eJ (ub (fun y:bA=>decide (y.name=L[i].name)) (qB (L.take i))) i with
   |none=>
    simp only[hq,K7,FI] at hg;have e11:((jL L i).map af).set i (af L[i])=(jL L i).map af:=by
     rw[←a1,List.set_getElem_self]
    simp only[Option.isSome_none,au,if_false];rw[e11];clear a1;generalize (jL L i).map af=rr at*;simp (maxSteps:=9^9) [aY.l3,hi,hg,e5]
   |some q=>
    simp only[hq,K7] at hg;simp only[Option.isSome_some,if_true];clear a1;generalize ((jL L i).map af).set i (af {L[i] with name:=k_ L[i].name L[i].gid})=r2 at*
    generalize (jL L i).map af=rr at*;simp (maxSteps:=9^9) [aY.l3,hi,hg,e5])
  (fun x=>by
   simp only[MF,NC,FI];generalize (jL L L.length).map af=rr at*;simp (maxSteps:=9^9) [aY.l3])
 exact⟨_,gT (hr x) (by omega)⟩
theorem xe(a b:List bA)(G:List Int):∀(gs:List Int) (out:List bA),gs.foldl (y8 a b G) out=out++(gs.filter fun g=> !decide (g∈G)).map (mC a b)
 |[],out=>by simp
 |g::gs,out=>by
  rw[fa,xe a b G gs,iX];unfold y8;by_cases c:g∈G
  ·simp[c]
  ·simp[c]
def lO(a b:List bA)(G:List Int):List bA:=qB (((aR (fR a) (fR b)).filter fun g=> !decide (g∈G)).map (mC a b))
theorem Bn{a b:List bA}(ha:mE a)(hb:mE b)(g:Int):(mC a b g).name.length≤12∧(mC a b g).gid≤9999:=by
 have hg:∀{c:bA},Good c→c.name.length≤12∧c.gid≤9999:=fun {c} hc=>⟨(mZ hc.name).2,hc.gid.2⟩
 unfold mC;cases hp:kZ a g with
 |some x=>
  have h1:=hg (ha.lY _ (lu hp).1);cases hq:kZ b g with
  |some y=>
   have h2:=hg (hb.lY _ (lu hq).1);simp only[oQ];rcases qX x y with q|q<;>rw[q]
   ·exact h1
   ·exact⟨h2.1,h1.2⟩
  |none=>exact h1
 |none=>
  cases hq:kZ b g with
  |some y=>exact hg (hb.lY _ (lu hq).1)
  |none=>simp
theorem aY.al(h:aY.k M)(a b:List bA)(G:List Int)(ha:mE a)(hb:mE b)(hG:G.length≤4194304):
  run M 466 [.c (boxes a),.c (boxes b),.c (ints G)] []=some (.c (.sl true 7 ((lO a b G).map af)),[]):=by
 obtain⟨h0,kin,kput,kcopy,kjoin,kat,kname⟩:=h;have K:O1 M:=⟨kin,kcopy,kjoin,kat⟩;have hla:=ha.len;have hlb:=hb.len;refine aA (b:=aY.m) h0 ⟨21, ?_⟩;have hgl:(fR a).length=a.length:=by simp[fR]
 have hgl2:(fR b).length=b.length:=by simp[fR]
 obtain⟨⟨v1,n1⟩,r1⟩:=IV kin kput 21 a b G hla (by omega) (2000016,2000064);have hs1:(a.foldl (fun s m=>kC s m.gid) []).length≤5:=by
  have:=vf a (fun s m=>kC s m.gid) (fun i s=>s.length≤i) (fun i h s hs=>by have:=sH s a[i].gid;omega) [] (by simp);omega
 obtain⟨⟨v2,n2⟩,r2⟩:=IU kin kput 21 a b G hlb (by omega) (a.foldl (fun s m=>kC s m.gid) []) hs1 (v1,n1+16);have hj:b.foldl (fun s m=>kC s m.gid) (a.foldl (fun s m=>kC s m.gid) [])=aR (fR a) (fR b):=by
  rw[xY,xY,aR,List.foldl_append]
 rw[hj] at r2;have hgs:(aR (fR a) (fR b)).length≤10:=by
  have:=kG (fR a) (fR b);omega
 have hmem:∀g∈aR (fR a) (fR b),g∈fR a∨g∈fR b:=fun g hg=>(je _ _ _).1 hg
 unfold lO;have hnm:∀x∈((aR (fR a) (fR b)).filter fun g=> !decide (g∈G)).map (mC a b),x.name.length≤1048576∧x.gid≤9223372036854775807:=fun x hx=>by
  obtain⟨g,_,rfl⟩:=List.mem_map.1 hx;have:=Bn ha hb g;omega
 have hfl:=bP (fun g=> !decide (g∈G)) (aR (fR a) (fR b));have eL:=xe a b G (aR (fR a) (fR b)) [];rw[List.nil_append] at eL;have hLl:(((aR (fR a) (fR b)).filter fun g=> !decide (g∈G)).map (mC a b)).length≤10:=by simp;omega
 obtain⟨g3,hr3⟩:=jK (f:=ct (run M) 21 aY.l2) (aR (fR a) (fR b)) (y8 a b G) (fun i s=>s.length≤i) (HV a b G (aR (fR a) (fR b)) v2) 4 (ND a b G (aR (fR a) (fR b)) v2)
  (fun i h s hs=>by unfold y8;split<;>(try simp)<;>omega)
  (fun i hi s x hs=>IT K 21 a b ha hb G (aR (fR a) (fR b)) hG (by omega) hmem v2 i hi s hs x)
  (fun s x hs=>K8 21 a b G (aR (fR a) (fR b)) v2 s x) [] (by simp)
 have r3:=gT (hr3 (n2+0,n2+48)) (show (aR (fR a) (fR b)).length+1≤21 by omega);rw[eL] at r3;generalize g3 (n2+0,n2+48)=y at*;obtain⟨v3,n3⟩:=y;generalize ((aR (fR a) (fR b)).filter fun g=> !decide (g∈G)).map (mC a b)=L at*;obtain⟨n4,r4⟩:=IQ kname v3 L (by omega) hnm 21 (by omega) (n3+16);have el:((qB L).map af).length=L.length:=by simp[lC]
 have eg:=aN (aR (fR a) (fR b));have eg1:=aN (a.foldl (fun s m=>kC s m.gid) []);have ez:((0:Nat):Int)=0:=rfl;simp only[L5,NG,ez,nJ,dM] at r1;simp only[L4,NF,ez] at r2;simp only[HV,ND,ez,bF,dM,Nat.add_zero] at r3;simp only[MF,NC,FI,xn,zh,ez] at r4;clear hnm eL hj hmem hr3;generalize (qB L).map af=R4 at*;generalize L.map af=R3 at*;generalize L.length=N at*;generalize (aR (fR a) (fR b))=gj at*;generalize (a.foldl (fun s m=>kC s m.gid) [])=ga at*;simp only[boxes,ints] at*;generalize az gj=rgj at*;generalize az ga=rga at*;generalize a.map af=ra at*;generalize b.map af=rb at*;generalize az G=rg at*;simp (maxSteps:=9^9) [ba,aY.m,aY.b,ab,r1,r2,r3,r4,el,aa]
def kz(L:List bA)(i:Nat):List Int:=(L.take i).flatMap fun b=>fD b.ae
def oc(L:List bA)(i:Nat)(x:bA):bA:={x with ae:=x.ae.filter fun m=> !decide (m.gid∈kz L i)}
def jN(L:List bA)(k:Nat):List bA:=L.mapIdx fun i x=>if i<k then oc L i x else x
def wC(L:List bA):List bA:=L.mapIdx fun i x=>oc L i x
theorem yg(L:List bA):jN L 0=L:=by unfold jN;simp[List.mapIdx_eq_iff]
theorem zA(L:List bA):jN L L.length=wC L:=by
 unfold jN wC;apply List.ext_getElem
 ·simp
 ·intro i h1 h2;simp at h1 ⊢;intro h;omega
theorem sJ(L:List bA)(k:Nat):(jN L k).length=L.length:=by simp[jN]
theorem yi(L:List bA)(k:Nat)(h:k<L.length):(jN L k)[k]'(by rw[sJ];exact h)=L[k]:=by simp[jN]
theorem yh(L:List bA)(k:Nat)(h:k<L.length):jN L (k+1)=(jN L k).set k (oc L k L[k]):=by
 unfold jN;apply List.ext_getElem
 ·simp
 ·intro i h1 h2;simp only[List.getElem_mapIdx,List.getElem_set];by_cases c:k=i
  ·subst c;simp
  ·rw[if_neg c];by_cases c2:i<k
   ·rw[if_pos c2,if_pos (by omega)]
   ·rw[if_neg c2,if_neg (by omega)]
theorem tu(L:List bA)(i:Nat)(h:i<L.length):kz L (i+1)=kz L i++fD L[i].ae:=by
 simp only[kz,iA L i h,List.flatMap_append,cI,List.flatMap_nil,dp]
structure yH where
 u4:Nat
 u6:Nat
 w:Nat
 z:Nat
 df:Int
 time:Int
 gone:List Int
 L:List bA
def DN(c:yH):List T:=[I c.df,I c.time,.row 13300 c.w 0 c.L.length,.row 11900 c.z 0 c.gone.length]
abbrev oM:List T:=[I 0,I 0,.aK 7,.aK 1]
structure NY where
 i:Nat
 v:Nat
 n:Nat
def EY(c:yH)(i:Nat)(x:bA)(seen:List Int)(u9 v:Nat)(j:Nat)(left:List bp)(y:Nat×Nat):St:={t:=[(4,.c (.ptr 4 c.u4 0 0)),(6,.c (.ptr 6 c.u6 0 0)),(7,.c (.row 35 v 0 seen.length)),(8,.c (I i)),(9,.c (.ptr 9 u9 0 0)),(10,.c (.row 44 y.1 0 left.length)),(37,.c (.row 13300 c.w 0 c.L.length)),(38,.c (I c.L.length)),(39,.c (I i)),(46,.c (ae x.ae)),(47,.c (I x.ae.length)),(48,.c (I j))],o:=[(4,⟨c.u4,4,true,true,[oM]⟩),(6,⟨c.u6,4,true,true,[DN c]⟩),(9,⟨u9,7,true,true,[af x]⟩),(35,⟨v,1,true,false,az seen⟩),(44,⟨y.1,4,true,false,left.map ah⟩),(11900,⟨c.z,1,false,false,az c.gone⟩),(13300,⟨c.w,7,true,false,(jN c.L i).map af⟩)],n:=y.2}
def I5(c:yH)(i:Nat)(x:bA)(seen:List Int)(u9 v:Nat)(left:List bp)(y:Nat×Nat):St:={t:=[(4,.c (.ptr 4 c.u4 0 0)),(6,.c (.ptr 6 c.u6 0 0)),(7,.c (.row 35 v 0 seen.length)),(8,.c (I i)),(9,.c (.ptr 9 u9 0 0)),(10,.c (.row 44 y.1 0 left.length)),(37,.c (.row 13300 c.w 0 c.L.length)),(38,.c (I c.L.length)),(39,.c (I i)),(46,.c (ae x.ae)),(47,.c (I x.ae.length)),(48,.c (I x.ae.length)),(49,.c (.bool false))],o:=[(4,⟨c.u4,4,true,true,[oM]⟩),(6,⟨c.u6,4,true,true,[DN c]⟩),(9,⟨u9,7,true,true,[af x]⟩),(35,⟨v,1,true,false,az seen⟩),(44,⟨y.1,4,true,false,left.map ah⟩),(11900,⟨c.z,1,false,false,az c.gone⟩),(13300,⟨c.w,7,true,false,(jN c.L i).map af⟩)],n:=y.2}
theorem GG(kc:aI.k M)(k:Nat)(c:yH)(i:Nat)(x:bA)(seen:List Int)(hseen:seen.length≤4194304)(u9 v:Nat)(hx:x.ae.length≤1048576)(hk:x.ae.length<k)(y:Nat×Nat):
  ∃z,eZ (ct (run M) k bG.l1) k (EY c i x seen u9 v 0 [] y)=some (.exit 2,I5 c i x seen u9 v (x.ae.filter fun m=> !decide (m.gid∈seen)) z):=by
 obtain⟨g,hr⟩:=jK (f:=ct (run M) k bG.l1) x.ae (fun s m=>if(!decide (m.gid∈seen))=true then s++[m] else s) (fun i s=>s.length≤i) (EY c i x seen u9 v) 2 (I5 c i x seen u9 v)
  (fun i h s hs=>by split<;>(try simp)<;>omega)
  (fun j hj s y hs=>by
   obtain⟨v4,n⟩:=y;have e5:=cA (i:=j) (by omega);have e6:s.length+1≤4294967296:=by omega
   have e9:(s.map ah).length=s.length:=by simp
   have er:(x.ae.map ah).length=x.ae.length:=by simp
   have h1:=aI.al kc seen x.ae[j].gid (by omega);have eg:=aN seen;have a1:∀hh,(x.ae.map ah)[j]'hh=ah x.ae[j]:=by intro hh;simp
   simp only[aE];by_cases q:x.ae[j].gid∈seen
   ·rw[decide_eq_true q] at h1;simp only[q,decide_true,Bool.not_true,au,if_false,EY,DN];simp only[af,ae,ints,ah,jM] at a1 h1 ⊢;generalize x.ae.map ah=rx at*;generalize az seen=rs at*;generalize (jN c.L i).map af=rd at*;generalize s.map ah=rl at*;generalize x.ae[j].flags.map aS=rf at*;simp (maxSteps:=9^9) [bG.l1,setAt,hj,h1,e5,er,eg,a1,aa]
   ·rw[decide_eq_false q] at h1;simp only[q,decide_false,Bool.not_false,if_true,EY,DN,cg,bq,bF,ax,bZ];simp only[af,ae,ints,ah,jM] at a1 h1 ⊢;generalize x.ae.map ah=rx at*;generalize az seen=rs at*;generalize (jN c.L i).map af=rd at*;generalize s.map ah=rl at*;generalize x.ae[j].flags.map aS=rf at*;simp (maxSteps:=9^9) [bG.l1,setAt,hj,h1,e5,e6,e9,er,eg,a1,aa])
  (fun s y hs=>by
   obtain⟨v4,n⟩:=y;have er:(x.ae.map ah).length=x.ae.length:=by simp
   simp only[aE,EY,I5,DN,ae];generalize x.ae.map ah=rx at*;generalize az seen=rs at*;generalize (jN c.L i).map af=rd at*;generalize s.map ah=rl at*;simp (maxSteps:=9^9) [bG.l1]) [] (by simp)
 rw[qR] at hr;exact⟨_,gT (hr y) (by omega)⟩
def GF(c:yH)(i:Nat)(xm:List bp)(left:List bp)(v4:Nat)(j:Nat)(seen:List Int)(y:Nat×Nat):St:={t:=[(4,.c (.ptr 4 c.u4 0 0)),(6,.c (.ptr 6 c.u6 0 0)),(7,.c (.row 35 y.1 0 seen.length)),(8,.c (I i)),(10,.c (.row 44 v4 0 left.length)),(37,.c (.row 13300 c.w 0 c.L.length)),(38,.c (I c.L.length)),(39,.c (I i)),(63,.c (ae xm)),(64,.c (I xm.length)),(65,.c (I j))],o:=[(4,⟨c.u4,4,true,true,[oM]⟩),(6,⟨c.u6,4,true,true,[DN c]⟩),(35,⟨y.1,1,true,false,az seen⟩),(44,⟨v4,4,true,false,left.map ah⟩),(11900,⟨c.z,1,false,false,az c.gone⟩),(13300,⟨c.w,7,true,false,(jN c.L i).map af⟩)],n:=y.2}
def I4(c:yH)(i:Nat)(xm:List bp)(left:List bp)(v4:Nat)(seen:List Int)(y:Nat×Nat):St:={t:=[(4,.c (.ptr 4 c.u4 0 0)),(6,.c (.ptr 6 c.u6 0 0)),(7,.c (.row 35 y.1 0 seen.length)),(8,.c (I i)),(10,.c (.row 44 v4 0 left.length)),(37,.c (.row 13300 c.w 0 c.L.length)),(38,.c (I c.L.length)),(39,.c (I i)),(63,.c (ae xm)),(64,.c (I xm.length)),(65,.c (I xm.length)),(66,.c (.bool false))],o:=[(4,⟨c.u4,4,true,true,[oM]⟩),(6,⟨c.u6,4,true,true,[DN c]⟩),(35,⟨y.1,1,true,false,az seen⟩),(44,⟨v4,4,true,false,left.map ah⟩),(11900,⟨c.z,1,false,false,az c.gone⟩),(13300,⟨c.w,7,true,false,(jN c.L i).map af⟩)],n:=y.2}
theorem ED(l:List bp)(s:List Int):l.foldl (fun s m=>s++[m.gid]) s=s++fD l:=by
 induction l generalizing s with
 |nil=>simp[fD]
 |cons a l ih=>rw[fa,ih];simp[fD]
theorem GD(k:Nat)(c:yH)(i:Nat)(xm left:List bp)(v4:Nat)(seen:List Int)(hseen:seen.length≤4194304)(hx:xm.length≤1048576)(hk:xm.length<k)(y:Nat×Nat):
  ∃z,eZ (ct (run M) k bG.l2) k (GF c i xm left v4 0 seen y)=some (.exit 4,I4 c i xm left v4 (seen++fD xm) z):=by
 obtain⟨g,hr⟩:=jK (f:=ct (run M) k bG.l2) xm (fun s m=>s++[m.gid]) (fun i s=>s.length≤4194304+i) (GF c i xm left v4) 4 (I4 c i xm left v4)
  (fun i h s hs=>by simp;omega)
  (fun j hj s y hs=>by
   obtain⟨v,n⟩:=y;have e5:=cA (i:=j) (by omega);have e6:s.length+1≤4294967296:=by omega
   have e9:=aN s;have er:(xm.map ah).length=xm.length:=by simp
   have a1:∀hh,(xm.map ah)[j]'hh=ah xm[j]:=by intro hh;simp
   simp only[aE,GF,DN,po,ax,bZ];simp only[ae,ah,jM] at a1 ⊢;generalize xm.map ah=rx at*;generalize az s=rs at*;generalize (jN c.L i).map af=rd at*;generalize left.map ah=rl at*;generalize xm[j].flags.map aS=rf at*;simp (maxSteps:=9^9) [bG.l2,setAt,hj,e5,e6,e9,er,a1,aa])
  (fun s y hs=>by
   obtain⟨v,n⟩:=y;have er:(xm.map ah).length=xm.length:=by simp
   simp only[aE,GF,I4,DN,ae];generalize xm.map ah=rx at*;generalize az s=rs at*;generalize (jN c.L i).map af=rd at*;generalize left.map ah=rl at*;simp (maxSteps:=9^9) [bG.l2]) seen (by omega)
 rw[ED] at hr;exact⟨_,gT (hr y) (by omega)⟩
def Bj(c:yH)(s:NY):St:={t:=[(4,.c (.ptr 4 c.u4 0 0)),(6,.c (.ptr 6 c.u6 0 0)),(7,.c (.row 35 s.v 0 (kz c.L s.i).length)),(37,.c (.row 13300 c.w 0 c.L.length)),(38,.c (I c.L.length)),(39,.c (I s.i))],o:=[(4,⟨c.u4,4,true,true,[oM]⟩),(6,⟨c.u6,4,true,true,[DN c]⟩),(35,⟨s.v,1,true,false,az (kz c.L s.i)⟩),(11900,⟨c.z,1,false,false,az c.gone⟩),(13300,⟨c.w,7,true,false,(jN c.L s.i).map af⟩)],n:=s.n}
def GJ(c:yH)(s:NY):St:={t:=[(4,.c (.ptr 4 c.u4 0 0)),(6,.c (.ptr 6 c.u6 0 0)),(7,.c (.row 35 s.v 0 (kz c.L s.i).length)),(37,.c (.row 13300 c.w 0 c.L.length)),(38,.c (I c.L.length)),(39,.c (I s.i)),(40,.c (.bool false))],o:=[(4,⟨c.u4,4,true,true,[oM]⟩),(6,⟨c.u6,4,true,true,[DN c]⟩),(35,⟨s.v,1,true,false,az (kz c.L s.i)⟩),(11900,⟨c.z,1,false,false,az c.gone⟩),(13300,⟨c.w,7,true,false,(jN c.L s.i).map af⟩)],n:=s.n}
theorem zd(L:List bA)(h:∀b∈L,b.ae.length≤100):∀i,(kz L i).length≤100*i
 |0=>by simp[kz]
 |i+1=>by
  have ih:=zd L h i;by_cases c:i<L.length
  ·rw[tu L i c];have:=h _ (aq c);simp only[ax,fD,de];omega
  ·have:kz L (i+1)=kz L i:=by
    simp only[kz];rw[aa (by omega),aa (by omega)]
   rw[this];omega
theorem GH(kc:aI.k M)(k:Nat)(hk:200≤k)(c:yH)(hL:c.L.length≤1000)(hb:∀b∈c.L,b.ae.length≤100)(s:NY)(hs:s.i<c.L.length):
  ∃v' n',ct (run M) k bG.l0 (Bj c s)=some (.normal,Bj c ⟨s.i+1,v',n'⟩):=by
 obtain⟨i,v,n⟩:=s;simp only at hs;have hx:=hb _ (aq hs);have hsl:=zd c.L hb i;obtain⟨⟨v4,n4⟩,r1⟩:=GG kc k c i c.L[i] (kz c.L i) (by omega) (n+64) v (by omega) (by omega) (n+112,n+208);obtain⟨⟨v5,n5⟩,r2⟩:=GD (M:=M) k c i c.L[i].ae (c.L[i].ae.filter fun m=> !decide (m.gid∈kz c.L i)) v4 (kz c.L i) (by omega) (by omega) (by omega) (v,n4+64);rw[←tu c.L i hs] at r2;have e5:=cA (i:=i) (by omega);have ez:((0:Nat):Int)=0:=rfl;have el:((jN c.L i).map af).length=c.L.length:=by simp[sJ]
 have a1:∀hh,((jN c.L i).map af)[i]'hh=af c.L[i]:=by
  intro hh;simp only[f_,yi c.L i hs]
 have t3:(jN c.L (i+1)).map af=((jN c.L i).map af).set i (af (oc c.L i c.L[i])):=by rw[yh c.L i hs,iU]
 have efl:((c.L[i].ae.filter fun m=> !decide (m.gid∈kz c.L i)).map ah).length=(c.L[i].ae.filter fun m=> !decide (m.gid∈kz c.L i)).length:=by simp
 have er:(c.L[i].ae.map ah).length=c.L[i].ae.length:=by simp
 simp only[EY,I5,ez,bF,dM] at r1;simp only[GF,I4,ez] at r2;simp only[Bj,t3];clear t3;simp only[oc,af,ae,ints,DN] at r1 r2 a1 ⊢;generalize (c.L[i].ae.filter fun m=> !decide (m.gid∈kz c.L i)).map ah=rl at*;generalize (c.L[i].ae.filter fun m=> !decide (m.gid∈kz c.L i)).length=nl at*;generalize az (kz c.L (i+1))=rs1 at*;generalize (kz c.L (i+1)).length=ns1 at*;generalize az (kz c.L i)=rs at*;generalize (kz c.L i).length=ns at*;generalize (jN c.L i).map af=rd at*;generalize c.L[i]=x at*;generalize c.L.length=N at*;generalize x.ae.map ah=rx at*;generalize az x.gone=rg at*;generalize az c.gone=rcg at*;simp (maxSteps:=9^9) [bG.l0,setAt,hs,r1,r2,e5,el,a1,efl,er,aa]
theorem I6(k:Nat)(c:yH)(s:NY)(hs:¬s.i<c.L.length):
  ∃n',ct (run M) k bG.l0 (Bj c s)=some (.exit 0,GJ c ⟨s.i,s.v,n'⟩):=by
 obtain⟨i,v,n⟩:=s;simp only at hs;simp only[Bj,GJ,DN];generalize (jN c.L i).map af=rd at*;simp (maxSteps:=9^9) [bG.l0,hs]
def dD(a b:aT):aT:={df:=a.df,time:=Max.max a.time b.time,boxes:=wC (ln a.boxes b.boxes (aR a.gone b.gone)),gone:=aR a.gone b.gone}
theorem GI(kc:aI.k M)(k:Nat)(hk:1200≤k)(c:yH)(hL:c.L.length≤1000)(hb:∀b∈c.L,b.ae.length≤100)(v n:Nat):
  ∃v' n',eZ (ct (run M) k bG.l0) k (Bj c ⟨0,v,n⟩)=some (.exit 0,GJ c ⟨c.L.length,v',n'⟩):=by
 obtain⟨r,hr,⟨⟨i,v',n'⟩,rfl,hi⟩⟩:=kW (f:=ct (run M) k bG.l0) (Bj c) (fun s=>s.i≤c.L.length) (fun s=>c.L.length-s.i) (fun r=>∃s',r=(.exit 0,GJ c s')∧s'.i=c.L.length)
  (fun s hs=>by
   by_cases q:s.i<c.L.length
   ·left;obtain⟨v',n',hh⟩:=GH kc k (by omega) c hL hb s q;exact⟨_,hh,by simp only;omega,by simp only;omega⟩
   ·right;obtain⟨n',hh⟩:=I6 (M:=M) k c s q;exact⟨_,hh,by simp,_,rfl,by simp only;omega⟩) k ⟨0,v,n⟩ (by simp) (by simp only;omega)
 simp only at hi;subst hi;exact⟨v',n',hr⟩
theorem DC:∀(l acc:List bA) (x:bA),x∈l.foldl o7 acc→x∈acc∨∃y∈l,x.gid=y.gid∧x.ae=y.ae∧x.gone=y.gone∧(x.name=y.name∨x.name=k_ y.name y.gid)
 |[],acc,x,h=> .inl h
 |y::l,acc,x,h=>by
  rw[fa] at h;rcases DC l _ x h with q|⟨z,hz,q⟩
  ·rw[qN] at q;rcases List.mem_append.1 q with q|q
   ·exact .inl q
   ·simp only[gz] at q;subst q;right;refine⟨y,bf .., ?_⟩;unfold pX;split
    ·exact⟨rfl,rfl,rfl,.inr rfl⟩
    ·exact⟨rfl,rfl,rfl,.inl rfl⟩
  ·exact .inr ⟨z,bo _ hz,q⟩
theorem yN(s:List UInt8)(g:Int):(k_ s g).length≤12:=by
 unfold k_;split
 ·simp;omega
 ·simp;omega
structure Small (x:bA):Prop where
 m:x.ae.length≤20
 g:x.gone.length≤80
 n:x.name.length≤12
 f:∀m∈x.ae,m.flags.length≤1048576
 d:(fD x.ae).Nodup
theorem Good.small{b:bA}(h:Good b):Small b:=⟨by have:=h.len;omega,by have:=h.nV;omega,(mZ h.name).2,h.u_.f,h.nd⟩
theorem yQ{a b:bA}(ha:Good a)(hb:Good b):Small (iv a b):=by
 have H:=ha.Bl hb;have J:=BX ha hb;refine⟨?_, ?_, ?_,(tC H).f,J.na⟩
 ·have:=J.all;rw[zL] at this;exact this
 ·unfold iv;split
  ·have:=kG a.gone b.gone;have:=ha.nV;have:=hb.nV;simp only;omega
  ·have:=ha.nV;omega
 ·rcases qX a b with q|q<;>rw[q]
  ·exact(mZ ha.name).2
  ·exact(mZ hb.name).2
theorem De{a b:List bA}(ha:mE a)(hb:mE b)(x:bA)(h:x∈oU a b):Small x:=by
 rcases BV x h with q|q|⟨y,hy,z,hz,_,rfl⟩
 ·exact(ha.lY x q).small
 ·exact(hb.lY x q).small
 ·exact yQ (ha.lY y hy) (hb.lY z hz)
theorem lX{a b:List bA}(ha:mE a)(hb:mE b)(G:List Int)(x:bA)(h:x∈ln a b G):Small x:=by
 rcases DC _ _ x h with q|⟨y,hy,q1,q2,q3,q4⟩
 ·simp at q
 ·have S:=De ha hb y (List.mem_filter.1 (qJ.1 hy)).1;refine⟨by rw[q2];exact S.m,by rw[q3];exact S.g, ?_,by rw[q2];exact S.f,by rw[q2];exact S.d⟩;rcases q4 with q|q<;>rw[q]
  ·exact S.n
  ·exact yN _ _
theorem pE{a b:List bA}(ha:mE a)(hb:mE b)(G:List Int):(ln a b G).length≤10:=by
 unfold ln;rw[lC,iZ];have h1:=bP (fun x:bA=> !decide (x.gid∈G)) (oU a b);have h2:=BW a b;have:=ha.len;have:=hb.len;omega
theorem Hd(L:List bA)(h:∀x∈L,Small x):∀x∈wC L,iL x:=by
 intro x hx;obtain⟨i,hi,rfl⟩:=bW hx;simp only[wC,List.length_mapIdx] at hi;simp only[wC,List.getElem_mapIdx,oc];have S:=h _ (aq hi);have hl:=bP (fun m:bp=> !decide (m.gid∈kz L i)) L[i].ae;refine⟨by have:=S.m;simp only;omega,by have:=S.g;simp only;omega,by have:=S.n;simp only;omega,fun m hm=>S.f m (List.mem_filter.1 hm).1⟩
structure mK (s:aT):Prop where
 boxes:mE s.boxes
 gone:s.gone.length≤20
 Ku:s.boxes.Pairwise fun x y=>x.gid<y.gid
theorem eT{s:aT}(h:a8 s=true):mK s:=by
 simp only[a8,aj,decide_eq_true_eq,cn,ju] at h;obtain⟨⟨⟨⟨_,_⟩,h3⟩,h4⟩,h5⟩:=h;have hg:=(pF.1 h4).2.2;have hbad:∀i (hi:i<s.boxes.length),fE s.boxes[i]=true∧∀(q:0<i),(s.boxes[i-1]'(by omega)).gid<s.boxes[i].gid:=fun i hi=>by
  have:=h5 i hi;rw[og hi,oG hi] at this;simp at this;exact⟨this.1.1.1.1.1,this.1.1.1.1.2⟩
 refine⟨⟨h3,fun b hb=> ?_⟩,by omega, ?_⟩
 ·obtain⟨i,hi,rfl⟩:=bW hb;exact qv.1 (hbad i hi).1
 ·have hA:yX (s.boxes.map (·.gid)):=w_ fun j hj=>by
   simp only[de] at hj;have:=(hbad (j+1) hj).2 (by omega);simpa using this
  exact List.pairwise_map.1 hA
theorem bG.al(h:bG.k M)(a b:aT)(ha:mK a)(hb:mK b):
  run M 447 [.a (ai a),.a (ai b)] []=some (.a [I a.df,I (Max.max a.time b.time),.sl true 7 ((dD a b).boxes.map af),.sl false 1 (az (dD a b).gone)],[]):=by
 obtain⟨h0,kg,kc,kb⟩:=h;have hga:=ha.gone;have hgb:=hb.gone;have hgj:=kG a.gone b.gone;have h1:=fM.al kg a.gone b.gone (by omega) (by omega);have h2:=bz.al kb a.boxes b.boxes (aR a.gone b.gone) ha.boxes hb.boxes (by omega);have hLl:=pE ha.boxes hb.boxes (aR a.gone b.gone);have hLs:=lX ha.boxes hb.boxes (aR a.gone b.gone);simp only[dD];have eg:=aN (aR a.gone b.gone);generalize aR a.gone b.gone=G at*;generalize ln a.boxes b.boxes G=L at*;obtain⟨v1,n1,r1⟩:=GI kc 1200 (by omega) ⟨2000032,2000384,2000352,2000112,a.df,Max.max a.time b.time,G,L⟩ (by simp only;omega) (fun x hx=>by have:=(hLs x hx).m;omega) 2000416 2000512;refine aA (b:=bG.m) h0 ⟨1200, ?_⟩;have el:(L.map af).length=L.length:=by simp
 have el2:((wC L).map af).length=L.length:=by simp[wC]
 have ez:((0:Nat):Int)=0:=rfl;have es:kz L 0=[]:=by simp[kz]
 have em:=Ae a.time b.time;simp only[Bj,GJ,DN,yg,zA,ez,es,nJ,dM] at r1;generalize hmx:Max.max a.time b.time=mx at*;clear hmx hLs;generalize (wC L).map af=RD at*;generalize L.map af=RL at*;generalize L.length=N at*;generalize az (kz L N)=rs at*;simp only[ai,boxes,ints] at*;generalize az G=rg at*;generalize G.length=ng at*;generalize a.boxes.map af=ra at*;generalize b.boxes.map af=rb at*;generalize az a.gone=ga at*;generalize az b.gone=gb at*;by_cases c:a.time<b.time
 ·rw[if_pos c] at em;subst em;simp (maxSteps:=9^9) [ba,bG.m,bG.b,ab,setAt,h1,h2,r1,c,el,el2,eg,aa]
 ·rw[if_neg c] at em;subst em;simp (maxSteps:=9^9) [ba,bG.m,bG.b,ab,setAt,h1,h2,r1,c,el,el2,eg,aa]
def L2(s:aT)(g:Int)(i:Nat)(x:Nat):St:={t:=[(1,.c (I g)),(2,.c (.ptr 2 2000000 0 0)),(5,.c (I i))],o:=[(2,⟨2000000,4,true,true,[ai s]⟩)],n:=x}
theorem dC.al(h:dC.k M)(s:aT)(g:Int)(hl:s.boxes.length≤1048576):run M 196 [.a (ai s),.c (I g)] []=some (.c (I (dO (mc s.boxes g))),[]):=by
 refine aA (b:=dC.m) h ⟨s.boxes.length+1, ?_⟩;have er:(s.boxes.map af).length=s.boxes.length:=by simp
 obtain⟨g',hr⟩:=m_ (f:=ct (run M) (s.boxes.length+1) dC.l0) s.boxes.length (ub (fun b:bA=>decide (b.gid=g)) s.boxes) (L2 s g) j6 pL
  (fun i hi x c=>by
   rw[j2 _ _ _ hi] at c;simp only[decide_eq_false_iff_not] at c;have e5:=cA (i:=i) (by omega);have a1:∀hh,(s.boxes.map af)[i]'hh=af s.boxes[i]:=by intro hh;simp
   simp only[L2,ai,boxes,ints];simp only[af] at a1;generalize s.boxes.map af=rb at*;simp (maxSteps:=9^9) [dC.l0,hi,c,e5,er,a1])
  (fun i hi x c=>by
   rw[j2 _ _ _ hi] at c;simp only[decide_eq_true_eq] at c;have a1:∀hh,(s.boxes.map af)[i]'hh=af s.boxes[i]:=by intro hh;simp
   simp only[L2,ai,boxes,ints];simp only[af] at a1;generalize s.boxes.map af=rb at*;simp (maxSteps:=9^9) [dC.l0,hi,c,er,a1,j6];exact⟨⟨[],[],_⟩,rfl⟩)
  (fun x=>by
   simp only[L2,ai,boxes,ints];generalize s.boxes.map af=rb at*;simp (maxSteps:=9^9) [dC.l0,er,j6])
 unfold mc;cases hm:eJ (ub (fun b:bA=>decide (b.gid=g)) s.boxes) s.boxes.length with
 |none=>
  simp[L2,hm,j6] at hr;simp only[ai,boxes,ints] at*;simp (maxSteps:=9^9) [ba,dC.m,dC.b,ab,hr,dO]
 |some k=>
  simp[L2,hm,j6] at hr;simp only[ai,boxes,ints] at*;simp (maxSteps:=9^9) [ba,dC.m,dC.b,ab,hr,dO]
theorem dY.al(h:dY.k M)(s:aT)(hs: -1000000000≤s.time∧s.time≤1000000000):run M 301 [.a (ai s)] []=some (.a [I (s.time+1),I s.df],[]):=by
 refine aA (b:=dY.m) h ⟨0, ?_⟩;have e5:IntKind.i64.wrap (s.time+1)=s.time+1:=wrap_i64 (by omega) (by omega);simp only[ai,boxes,ints];simp (maxSteps:=9^9) [ba,dY.m,dY.b,ab,setAt,e5]
def ME(s:aT)(i v:Nat):List (Nat×Ob):=[(1,⟨2000000,4,true,true,[ai s]⟩),(2,⟨2000016,4,true,true,[oM]⟩),(3,⟨2000048,4,true,true,[[I s.df,I s.time,.row 6 v 0 i,ints s.gone]]⟩),(6,⟨v,7,true,false,(s.boxes.take i).map af⟩)]
def Ny(s:aT)(i:Nat)(x:Nat×Nat):St:={t:=[(1,.c (.ptr 1 2000000 0 0)),(2,.c (.ptr 2 2000016 0 0)),(3,.c (.ptr 3 2000048 0 0)),(4,.c (I i))],o:=ME s i x.1,n:=x.2}
def Om(s:aT)(x:Nat×Nat):St:={t:=[(1,.c (.ptr 1 2000000 0 0)),(2,.c (.ptr 2 2000016 0 0)),(3,.c (.ptr 3 2000048 0 0)),(4,.c (I s.boxes.length)),(12,.c (.bool false))],o:=ME s s.boxes.length x.1,n:=x.2}
theorem cu.al(h:cu.k M)(s:aT)(hs:gJ s):run M 219 [.a (ai s)] []=some (.a (aW s),[]):=by
 obtain⟨h0,k1⟩:=h;have hbl:=hs.b;have hgl:=hs.g;refine aA (b:=cu.m) h0 ⟨s.boxes.length+1, ?_⟩;have er:(s.boxes.map af).length=s.boxes.length:=by simp
 obtain⟨g,hr⟩:=ky (f:=ct (run M) (s.boxes.length+1) cu.l0) s.boxes.length (Ny s) 0 (Om s)
  (fun i hi x=>by
   obtain⟨v,n⟩:=x;have h2:=cd.al k1 s.boxes[i] (hs.i _ (aq hi));have e5:=cA (i:=i) (by omega);have e6:i+1≤4294967296:=by omega
   have e7:((s.boxes.take i).map af).length=i:=by simp;omega
   have e8:((s.boxes.take (i+1)).map af)=(s.boxes.take i).map af++[af s.boxes[i]]:=by rw[iA _ _ hi,cg];rfl
   have a1:∀hh,(s.boxes.map af)[i]'hh=af s.boxes[i]:=by intro hh;simp
   simp only[aE,Ny,ME,e8,ai,boxes,ints];simp only[af,cm,ae,ints] at h2 a1 ⊢;generalize (s.boxes.take i).map af=rr at*;generalize s.boxes.map af=rb at*;generalize s.boxes[i].ae.map ah=rm at*;generalize az s.boxes[i].gone=rg at*;generalize az s.gone=rs at*;simp (maxSteps:=9^9) [cu.l0,ab,setAt,hi,h2,e5,e6,e7,er,a1,aa])
  (fun x=>by
   obtain⟨v,n⟩:=x;simp only[aE,Ny,Om,ME,ai,boxes,ints];generalize (s.boxes.take s.boxes.length).map af=rr at*;generalize s.boxes.map af=rb at*;generalize az s.gone=rs at*;simp (maxSteps:=9^9) [cu.l0,ab,er])
 have hr0:=hr (2000080,2000144);generalize g (2000080,2000144)=y at*;obtain⟨v,n⟩:=y;have ez:((0:Nat):Int)=0:=rfl;have eg:=aN s.gone;have e9:s.gone.length≤4294967296:=by omega
 simp only[Ny,Om,ME,ez,List.take_zero,bF,List.take_length,ai,boxes,ints] at hr0;simp only[ai,aW,boxes,ints];generalize s.boxes.map af=rb at*;generalize az s.gone=rs at*;simp (maxSteps:=9^9) [ba,cu.m,cu.b,ab,setAt,hr0,er,eg,e9,aa]
def oA(b:bA)(g:Int):Bool:=(gg b.ae g).isSome||decide (g∈b.gone)
def oP(s:aT)(g:Int):Bool:=(mc s.boxes g).isSome||decide (g∈s.gone)||s.boxes.any fun b=>oA b g
def L1(s:aT)(g:Int)(i:Nat)(x:Nat):St:={t:=[(1,.c (I g)),(2,.c (.ptr 2 2000000 0 0)),(5,.c (I i))],o:=[(2,⟨2000000,4,true,true,[ai s]⟩)],n:=x}
def Ol(s:aT)(g:Int)(x:Nat):St:={t:=[(1,.c (I g)),(2,.c (.ptr 2 2000000 0 0)),(5,.c (I s.boxes.length)),(20,.c (.bool false))],o:=[(2,⟨2000000,4,true,true,[ai s]⟩)],n:=x}
theorem rH(p:bA→Bool)(l:List bA):l.any p=(eJ (ub p l) l.length).isSome:=by
 cases q:eJ (ub p l) l.length with
 |none=>
  have hn:=mg q;have:l.any p=false:=by
   rw[List.any_eq_false];intro b hb;obtain⟨j,hj,rfl⟩:=bW hb;have:=hn j hj;rw[j2 _ _ _ hj] at this;simp[this]
  rw[this];rfl
 |some k=>
  obtain⟨h1,h2,_⟩:=mf q;rw[j2 _ _ _ h1] at h2;have:l.any p=true:=List.any_eq_true.2 ⟨_,aq h1,h2⟩;rw[this];rfl
theorem lG(q:Option Nat):decide ((0:Int)≤dO q)=q.isSome:=by
 cases q with
 |none=>rfl
 |some k=>exact decide_eq_true (Int.natCast_nonneg k)
theorem eU.al(h:eU.k M)(s:aT)(g:Int)(hs:gJ s):run M 300 [.a (ai s),.c (I g)] []=some (.c (.bool (oP s g)),[]):=by
 obtain⟨h0,ka,ki,kb⟩:=h;have hbl:=hs.b;have hgl:=hs.g;have h1:=dC.al kb s g hbl;have h2:=bj.al ki s.gone g (by omega);refine aA (b:=eU.m) h0 ⟨s.boxes.length+1, ?_⟩;have er:(s.boxes.map af).length=s.boxes.length:=by simp
 obtain⟨g',hr⟩:=iN (f:=ct (run M) (s.boxes.length+1) eU.l0) s.boxes.length (ub (fun b=>oA b g) s.boxes) (L1 s g) 4 (.bool true) 0 (Ol s g)
  (fun i hi x c=>by
   rw[j2 _ _ _ hi] at c;have hb:=hs.i _ (aq hi);have h3:=bT.al ka s.boxes[i] g hb.m;have h4:=bj.al ki s.boxes[i].gone g (by have:=hb.g;omega);have e5:=cA (i:=i) (by omega);have a1:∀hh,(s.boxes.map af)[i]'hh=af s.boxes[i]:=by intro hh;simp
   unfold oA at c;simp only[gi] at c;obtain⟨c1,c2⟩:=c;rw[c2] at h4;have c3:¬(0:Int)≤dO (gg s.boxes[i].ae g):=by
    have:=lG (gg s.boxes[i].ae g);rw[c1] at this;simpa using this
   simp only[L1,ai,boxes,ints];simp only[af,ae,ints] at h3 h4 a1;generalize dO (gg s.boxes[i].ae g)=z at*;generalize s.boxes.map af=rb at*;generalize s.boxes[i].ae.map ah=rm at*;generalize az s.boxes[i].gone=rg at*;simp (maxSteps:=9^9) [eU.l0,hi,h3,h4,c3,e5,er,a1,aa])
  (fun i hi x c=>by
   rw[j2 _ _ _ hi] at c;have hb:=hs.i _ (aq hi);have h3:=bT.al ka s.boxes[i] g hb.m;have h4:=bj.al ki s.boxes[i].gone g (by have:=hb.g;omega);have a1:∀hh,(s.boxes.map af)[i]'hh=af s.boxes[i]:=by intro hh;simp
   unfold oA at c;have c3:=lG (gg s.boxes[i].ae g);simp only[L1,ai,boxes,ints];simp only[af,ae,ints] at h3 h4 a1;generalize dO (gg s.boxes[i].ae g)=z at*;generalize (gg s.boxes[i].ae g).isSome=w at*;generalize decide (g∈s.boxes[i].gone)=w2 at*;generalize s.boxes.map af=rb at*;generalize s.boxes[i].ae.map ah=rm at*;generalize az s.boxes[i].gone=rg at*;cases w
   ·simp only[decide_eq_false_iff_not] at c3;simp only[Bool.false_or] at c;subst c;simp (maxSteps:=9^9) [eU.l0,hi,h3,h4,c3,er,a1,aa]
   ·simp only[decide_eq_true_eq] at c3;simp (maxSteps:=9^9) [eU.l0,hi,h3,c3,er,a1,aa])
  (fun x=>by
   simp only[L1,Ol,ai,boxes,ints];generalize s.boxes.map af=rb at*;simp (maxSteps:=9^9) [eU.l0,er])
 have hany:=rH (fun b=>oA b g) s.boxes;have c0:=lG (mc s.boxes g);unfold oP;rw[hany];generalize (mc s.boxes g).isSome=w1 at*;generalize dO (mc s.boxes g)=z at*;generalize decide (g∈s.gone)=w2 at*;have ez:((0:Nat):Int)=0:=rfl;cases w1
 ·simp only[decide_eq_false_iff_not] at c0;cases w2
  ·cases hq:eJ (ub (fun b=>oA b g) s.boxes) s.boxes.length with
   |none=>
    simp only[L1,Ol,hq,lz,ez] at hr;simp only[ai,boxes,ints] at*;simp (maxSteps:=9^9) [ba,eU.m,eU.b,ab,h1,h2,c0,hr,aa]
   |some q=>
    simp only[L1,hq,lz,ez] at hr;simp only[ai,boxes,ints] at*;simp (maxSteps:=9^9) [ba,eU.m,eU.b,ab,h1,h2,c0,hr,aa]
  ·simp only[ai,boxes,ints] at*;simp (maxSteps:=9^9) [ba,eU.m,eU.b,ab,h1,h2,c0,aa]
 ·simp only[decide_eq_true_eq] at c0;simp only[ai,boxes,ints] at*;simp (maxSteps:=9^9) [ba,eU.m,eU.b,ab,h1,c0,aa]
theorem yz{b:bA}(hb:iL b)(g f:Int)(x:List UInt8)(t w:Int):iL (lv b g f x t w).1:=by
 unfold lv;split
 ·rename_i c;exact(qv.1 c.2.2.2.2).u_
 ·exact hb
theorem vY{b:bA}(hb:iL b)(g n t w:Int):iL (j9 b g n t w).1:=by
 unfold j9;split
 ·exact hb
 ·split
  ·exact hb
  ·rename_i k hk m hm;split
   ·refine⟨by simpa using hb.m,hb.g,hb.n,fun m' hm'=> ?_⟩;obtain⟨j,hj,rfl⟩:=bW hm';simp only[List.getElem_set];split
    ·have e:(mU m.flags n t w).length=m.flags.length:=by unfold mU;split<;>simp
     simp only[e];exact hb.f m (ji hm)
    ·exact hb.f _ (aq _)
   ·exact hb
def gW(s:aT)(i:Nat)(b:bA):aT:={s with boxes:=s.boxes.set i b,time:=s.time+1}
def stamped(s:aT)(i:Nat)(b:bA):aT×Bool:=if a8 (gW s i b)=true then(gW s i b,true) else(s,false)
structure mN (s:aT):Prop where
 mT:gJ s
 time: -1000000000≤s.time∧s.time≤1000000000
theorem n6{s:aT}(hs:gJ s){i:Nat}(hi:i<s.boxes.length){b:bA}(hb:iL b)(hm:(s.boxes.flatMap b_).length+b.ae.length≤1048576):gJ (gW s i b):=by
 refine⟨by simpa [gW] using hs.b,hs.g,fun x hx=> ?_, ?_⟩
 ·rcases List.mem_or_eq_of_mem_set hx with q|q
  ·exact hs.i x q
  ·rw[q];exact hb
 ·have e:s.boxes.set i b=s.boxes.take i++b::s.boxes.drop (i+1):=List.set_eq_take_append_cons_drop.trans (by rw[if_pos hi]);simp only[gW];rw[e];have hsub:((s.boxes.take i).flatMap b_).length+((s.boxes.drop (i+1)).flatMap b_).length≤(s.boxes.flatMap b_).length:=by
   conv=>rhs;rw[←cr i s.boxes,bD hi]
   simp only[List.flatMap_append,cI,ax];omega
  simp only[List.flatMap_append,cI,ax,b_,de] at hsub hm ⊢;omega
theorem eK.al(h:eK.k M)(s:aT)(hs:mN s)(i:Nat)(hi:i<s.boxes.length)(b:bA)(hb:iL b)(hm:(s.boxes.flatMap b_).length+b.ae.length≤1048576):
  run M 302 [.a (ai s),.c (I i),.a (af b)] []=some (.lN [.a (aW (stamped s i b).1),.c (.bool (stamped s i b).2)],[]):=by
 obtain⟨h0,ko,kc⟩:=h;have ht:=hs.time;have h1:=cu.al kc s hs.mT;have h2:=aL.al ko (gW s i b) (n6 hs.mT hi hb hm);refine aA (b:=eK.m) h0 ⟨0, ?_⟩;have e5:IntKind.i64.wrap (s.time+1)=s.time+1:=wrap_i64 (by omega) (by omega);have er:(s.boxes.map af).length=s.boxes.length:=by simp
 have eg:=aN s.gone;have es:(gW s i b).boxes.map af=(s.boxes.map af).set i (af b):=by simp only[gW,iU]
 have ew:(gW s i b).df=s.df:=rfl;have et:(gW s i b).time=s.time+1:=rfl;have egn:(gW s i b).gone=s.gone:=rfl;have a1:∀hh,(s.boxes.map af)[i]'hh=af s.boxes[i]:=by intro hh;simp
 unfold stamped;cases c:a8 (gW s i b) with
 |true=>
  rw[c] at h2;rw[if_pos rfl];simp only[ai,aW,boxes,ints,es,ew,et,egn] at h1 h2 ⊢;clear es c;simp only[af,ae,ints] at h2 a1 ⊢;generalize s.boxes.map af=rb at*;generalize az s.gone=rs at*;generalize s.boxes[i].ae.map ah=r1 at*;generalize az s.boxes[i].gone=r2 at*;generalize b.ae.map ah=r3 at*;generalize az b.gone=r4 at*;simp (maxSteps:=9^9) [ba,eK.m,eK.b,ab,setAt,hi,h1,h2,e5,er,eg,a1,aa]
 |false=>
  rw[c] at h2;rw[if_neg (by decide)];simp only[ai,aW,boxes,ints,es,ew,et,egn] at h1 h2 ⊢;clear es c;simp only[af,ae,ints] at h2 a1 ⊢;generalize s.boxes.map af=rb at*;generalize az s.gone=rs at*;generalize s.boxes[i].ae.map ah=r1 at*;generalize az s.boxes[i].gone=r2 at*;generalize b.ae.map ah=r3 at*;generalize az b.gone=r4 at*;simp (maxSteps:=9^9) [ba,eK.m,eK.b,ab,setAt,hi,h1,h2,e5,er,eg,a1,aa]
def at_(s:aT)(g:Int)(f:Nat→bA→aT×Bool):aT×Bool:=match mc s.boxes g with
 |none=>(s,false)
 |some i=>match s.boxes[i]? with
  |none=>(s,false)
  |some b=>f i b
theorem mu{s:aT}{g:Int}{f:Nat→bA→aT×Bool}(h:mc s.boxes g=none):at_ s g f=(s,false):=by simp only[at_,h]
theorem mr{s:aT}{g:Int}{f:Nat→bA→aT×Bool}{i:Nat}(h:mc s.boxes g=some i)(hi:i<s.boxes.length):at_ s g f=f i s.boxes[i]:=by simp only[at_,h,cj hi]
def mP(s:aT)(g m f:Int)(x:List UInt8):aT×Bool:=if a8 s=true∧oP s m=false then at_ s g fun i b=>if(lv b m f x (s.time+1) s.df).2=true then stamped s i (lv b m f x (s.time+1) s.df).1 else(s,false) else(s,false)
def lD(s:aT)(g m f:Int):aT×Bool:=if a8 s=true then at_ s g fun i b=>if(j9 b m f (s.time+1) s.df).2=true then stamped s i (j9 b m f (s.time+1) s.df).1 else(s,false) else(s,false)
def lK(s:aT)(g m:Int):aT×Bool:=if a8 s=true then at_ s g fun i b=>if(kL b m).2=true then({s with boxes:=s.boxes.set i (kL b m).1},true) else(s,false) else(s,false)
theorem oC{s:aT}(h:a8 s=true):(s.boxes.flatMap b_).length≤50:=by
 have G:=(eT h).boxes;have key:∀l:List bA,(∀x∈l,x.ae.length≤10)→(l.flatMap b_).length≤10*l.length:=by
  intro l
  induction l with
  |nil=>intro _;simp
  |cons x l ih=>
   intro h;have h1:=ih fun y hy=>h y (bo _ hy)
   have h2:=h x (bf ..);simp only[cI,ax,b_,de,bK] at h1 ⊢;omega
 have:=key s.boxes fun x hx=>(G.lY x hx).len
 have:=G.len;omega
theorem th{b:bA}(hb:Good b)(g f:Int)(x:List UInt8)(t w:Int):(lv b g f x t w).1.ae.length≤11:=by
 unfold lv;split
 ·rename_i c;exact Nat.le_trans (qv.1 c.2.2.2.2).len (by omega)
 ·have:=hb.len;simp only;omega
theorem rZ{b:bA}(hb:Good b)(g n t w:Int):(j9 b g n t w).1.ae.length≤11:=by
 have:=hb.len;unfold j9;split
 ·simp only;omega
 ·split
  ·simp only;omega
  ·split
   ·simp only[List.length_set];omega
   ·simp only;omega
theorem dI.al(h:dI.k M)(s:aT)(hs:mN s)(g m f:Int)(x:List UInt8):
  run M 279 [.a (ai s),.c (I g),.c (I m),.c (I f),.c (S x)] []=some (.lN [.a (aW (mP s g m f x).1),.c (.bool (mP s g m f x).2)],[]):=by
 obtain⟨h0,ka,ko,kb,kc,kk,kn,kst⟩:=h;have h1:=dC.al kb s g hs.mT.b;have h2:=aL.al ko s hs.mT;have h3:=eU.al kk s m hs.mT;have h4:=cu.al kc s hs.mT;have h5:=dY.al kn s hs.time;have er:(s.boxes.map af).length=s.boxes.length:=by simp
 have eg:=aN s.gone;refine aA (b:=dI.m) h0 ⟨0, ?_⟩;unfold mP;cases c1:a8 s with
 |false=>
  rw[c1] at h2;simp only[au,false_and,if_false];simp only[ai,aW,boxes,ints] at*;generalize s.boxes.map af=rb at*;generalize az s.gone=rs at*;simp (maxSteps:=9^9) [ba,dI.m,dI.b,ab,setAt,h1,h2,h4,er,eg,aa]
 |true=>
  rw[c1] at h2;cases c2:oP s m with
  |true=>
   rw[c2] at h3;simp only[Bool.true_eq_false,and_false,if_false];simp only[ai,aW,boxes,ints] at*;generalize s.boxes.map af=rb at*;generalize az s.gone=rs at*;simp (maxSteps:=9^9) [ba,dI.m,dI.b,ab,setAt,h1,h2,h3,h4,er,eg,aa]
  |false=>
   rw[c2] at h3;rw[if_pos ⟨rfl,rfl⟩];cases c3:mc s.boxes g with
   |none=>
    rw[c3] at h1;rw[mu c3];simp only[ai,aW,boxes,ints,dO] at*;generalize s.boxes.map af=rb at*;generalize az s.gone=rs at*;simp (maxSteps:=9^9) [ba,dI.m,dI.b,ab,setAt,h1,h2,h3,h4,er,eg,aa]
   |some i=>
    rw[c3] at h1;obtain⟨hi,_⟩:=jk c3;rw[mr c3 hi];have hG:=(eT c1).boxes.lY _ (aq hi);have h6:=eH.al ka s.boxes[i] hG.u_ m f x (s.time+1) s.df;have hin:=yz hG.u_ m f x (s.time+1) s.df;have h7:=eK.al kst s hs i hi (lv s.boxes[i] m f x (s.time+1) s.df).1 hin (by have:=oC c1;have:=th hG m f x (s.time+1) s.df;omega);have a1:∀hh,(s.boxes.map af)[i]'hh=af s.boxes[i]:=by intro hh;simp
    have ni:¬(i:Int)<0:=by omega
    generalize lv s.boxes[i] m f x (s.time+1) s.df=A at*;obtain⟨b',ok⟩:=A;generalize stamped s i b'=B at*;obtain⟨s',ok'⟩:=B;have er2:(s'.boxes.map af).length=s'.boxes.length:=by simp
    have eg2:=aN s'.gone;simp only[ai,aW,boxes,ints,dO] at h1 h2 h3 h4 h5 h7 ⊢;simp only[af,cm,ae,ints] at h6 h7 a1;generalize hrb:s.boxes.map af=rb at*;generalize hrs:az s.gone=rs at*;generalize s.boxes[i].ae.map ah=r1 at*;generalize az s.boxes[i].gone=r2 at*;generalize b'.ae.map ah=r3 at*;generalize az b'.gone=r4 at*;cases ok
    ·simp only[au,if_false];simp (maxSteps:=9^9) [ba,dI.m,dI.b,ab,setAt,hi,ni,h1,h2,h3,h4,h5,h6,er,eg,a1,aa];exact⟨hrb.symm,hrs.symm⟩
    ·simp only[if_true];generalize s'.boxes.map af=rb' at*;generalize az s'.gone=rs' at*;simp (maxSteps:=9^9) [ba,dI.m,dI.b,ab,setAt,hi,ni,h1,h2,h3,h5,h6,h7,er,er2,eg2,a1,aa]
theorem dA.al(h:dA.k M)(s:aT)(hs:mN s)(g m f:Int):
  run M 280 [.a (ai s),.c (I g),.c (I m),.c (I f)] []=some (.lN [.a (aW (lD s g m f).1),.c (.bool (lD s g m f).2)],[]):=by
 obtain⟨h0,ka,ko,kb,kc,kn,kst⟩:=h;have h1:=dC.al kb s g hs.mT.b;have h2:=aL.al ko s hs.mT;have h4:=cu.al kc s hs.mT;have h5:=dY.al kn s hs.time;have er:(s.boxes.map af).length=s.boxes.length:=by simp
 have eg:=aN s.gone;refine aA (b:=dA.m) h0 ⟨0, ?_⟩;unfold lD;cases c1:a8 s with
 |false=>
  rw[c1] at h2;simp only[au,if_false];simp only[ai,aW,boxes,ints] at*;generalize s.boxes.map af=rb at*;generalize az s.gone=rs at*;simp (maxSteps:=9^9) [ba,dA.m,dA.b,ab,setAt,h1,h2,h4,er,eg,aa]
 |true=>
  rw[c1] at h2;rw[if_pos rfl];cases c3:mc s.boxes g with
  |none=>
   rw[c3] at h1;rw[mu c3];simp only[ai,aW,boxes,ints,dO] at*;generalize s.boxes.map af=rb at*;generalize az s.gone=rs at*;simp (maxSteps:=9^9) [ba,dA.m,dA.b,ab,setAt,h1,h2,h4,er,eg,aa]
  |some i=>
   rw[c3] at h1;obtain⟨hi,_⟩:=jk c3;rw[mr c3 hi];have hG:=(eT c1).boxes.lY _ (aq hi);have h6:=dS.al ka s.boxes[i] hG.u_ m f (s.time+1) s.df;have hin:=vY hG.u_ m f (s.time+1) s.df;have h7:=eK.al kst s hs i hi (j9 s.boxes[i] m f (s.time+1) s.df).1 hin (by have:=oC c1;have:=rZ hG m f (s.time+1) s.df;omega);have a1:∀hh,(s.boxes.map af)[i]'hh=af s.boxes[i]:=by intro hh;simp
   have ni:¬(i:Int)<0:=by omega
   generalize j9 s.boxes[i] m f (s.time+1) s.df=A at*;obtain⟨b',ok⟩:=A;generalize stamped s i b'=B at*;obtain⟨s',ok'⟩:=B;have er2:(s'.boxes.map af).length=s'.boxes.length:=by simp
   have eg2:=aN s'.gone;simp only[ai,aW,boxes,ints,dO] at h1 h2 h4 h5 h7 ⊢;simp only[af,cm,ae,ints] at h6 h7 a1;generalize hrb:s.boxes.map af=rb at*;generalize hrs:az s.gone=rs at*;generalize s.boxes[i].ae.map ah=r1 at*;generalize az s.boxes[i].gone=r2 at*;generalize b'.ae.map ah=r3 at*;generalize az b'.gone=r4 at*;cases ok
   ·simp only[au,if_false];simp (maxSteps:=9^9) [ba,dA.m,dA.b,ab,setAt,hi,ni,h1,h2,h4,h5,h6,er,eg,a1,aa];exact⟨hrb.symm,hrs.symm⟩
   ·simp only[if_true];generalize s'.boxes.map af=rb' at*;generalize az s'.gone=rs' at*;simp (maxSteps:=9^9) [ba,dA.m,dA.b,ab,setAt,hi,ni,h1,h2,h5,h6,h7,er,er2,eg2,a1,aa]
theorem dB.al(h:dB.k M)(s:aT)(hs:mN s)(g m:Int):
  run M 281 [.a (ai s),.c (I g),.c (I m)] []=some (.lN [.a (aW (lK s g m).1),.c (.bool (lK s g m).2)],[]):=by
 obtain⟨h0,kt,ko,kb,kc⟩:=h;have h1:=dC.al kb s g hs.mT.b;have h2:=aL.al ko s hs.mT;have h4:=cu.al kc s hs.mT;have er:(s.boxes.map af).length=s.boxes.length:=by simp
 have eg:=aN s.gone;refine aA (b:=dB.m) h0 ⟨0, ?_⟩;unfold lK;cases c1:a8 s with
 |false=>
  rw[c1] at h2;simp only[au,if_false];simp only[ai,aW,boxes,ints] at*;generalize s.boxes.map af=rb at*;generalize az s.gone=rs at*;simp (maxSteps:=9^9) [ba,dB.m,dB.b,ab,setAt,h1,h2,h4,er,eg,aa]
 |true=>
  rw[c1] at h2;rw[if_pos rfl];cases c3:mc s.boxes g with
  |none=>
   rw[c3] at h1;rw[mu c3];simp only[ai,aW,boxes,ints,dO] at*;generalize s.boxes.map af=rb at*;generalize az s.gone=rs at*;simp (maxSteps:=9^9) [ba,dB.m,dB.b,ab,setAt,h1,h2,h4,er,eg,aa]
  |some i=>
   rw[c3] at h1;obtain⟨hi,_⟩:=jk c3;rw[mr c3 hi];have hG:=(eT c1).boxes.lY _ (aq hi);have h6:=du.al kt s.boxes[i] hG.u_ m;have a1:∀hh,(s.boxes.map af)[i]'hh=af s.boxes[i]:=by intro hh;simp
   have ni:¬(i:Int)<0:=by omega
   generalize kL s.boxes[i] m=A at*;obtain⟨b',ok⟩:=A;have es:(s.boxes.set i b').map af=(s.boxes.map af).set i (af b'):=iU;simp only[ai,aW,boxes,ints,dO] at h1 h2 h4 ⊢;simp only[af,cm,ae,ints] at h6 a1 es;cases ok
   ·simp only[au,if_false];generalize s.boxes.map af=rb at*;generalize az s.gone=rs at*;generalize s.boxes[i].ae.map ah=r1 at*;generalize az s.boxes[i].gone=r2 at*;generalize b'.ae.map ah=r3 at*;generalize az b'.gone=r4 at*;simp (maxSteps:=9^9) [ba,dB.m,dB.b,ab,setAt,hi,ni,h1,h2,h4,h6,er,eg,a1,aa]
   ·simp only[if_true,es];clear es;generalize s.boxes.map af=rb at*;generalize az s.gone=rs at*;generalize s.boxes[i].ae.map ah=r1 at*;generalize az s.boxes[i].gone=r2 at*;generalize b'.ae.map ah=r3 at*;generalize az b'.gone=r4 at*;simp (maxSteps:=9^9) [ba,dB.m,dB.b,ab,setAt,hi,ni,h1,h2,h4,h6,er,eg,a1,aa]
def j8(s:aT)(nm:List UInt8)(b:bA):bA:={b with name:=nm,time:=s.time+1,df:=s.df}
def kN(s:aT)(g:Int)(nm:List UInt8):aT×Bool:=if a8 s=true∧(named s.boxes nm).isSome=false then at_ s g fun i b=>stamped s i (j8 s nm b) else(s,false)
theorem cL.al(h:cL.k M)(s:aT)(hs:mN s)(g:Int)(nm:List UInt8)(hn:nm.length≤1048576):
  run M 282 [.a (ai s),.c (I g),.c (S nm)] []=some (.lN [.a (aW (kN s g nm).1),.c (.bool (kN s g nm).2)],[]):=by
 obtain⟨h0,ko,kb,kc,kn,kst⟩:=h;have ht:=hs.time;have h1:=dC.al kb s g hs.mT.b;have h2:=aL.al ko s hs.mT;have h3:=cH.al kn s nm hs.mT.b;have h4:=cu.al kc s hs.mT;have h5:=dY.al kst s hs.time;have er:(s.boxes.map af).length=s.boxes.length:=by simp
 have eg:=aN s.gone;have e5:IntKind.i64.wrap (s.time+1)=s.time+1:=wrap_i64 (by omega) (by omega);refine aA (b:=cL.m) h0 ⟨0, ?_⟩;unfold kN;cases c1:a8 s with
 |false=>
  rw[c1] at h2;simp only[au,false_and,if_false];simp only[ai,aW,boxes,ints] at*;generalize s.boxes.map af=rb at*;generalize az s.gone=rs at*;simp (maxSteps:=9^9) [ba,cL.m,cL.b,ab,setAt,h1,h2,h4,er,eg,aa]
 |true=>
  rw[c1] at h2;cases c3:mc s.boxes g with
  |none=>
   rw[c3] at h1;have e:(if true=true∧(named s.boxes nm).isSome=false then at_ s g fun i b=>stamped s i (j8 s nm b) else(s,false))=(s,false):=by
    rw[mu c3];split<;>rfl
   rw[e];simp only[ai,aW,boxes,ints,dO] at*;generalize s.boxes.map af=rb at*;generalize az s.gone=rs at*;simp (maxSteps:=9^9) [ba,cL.m,cL.b,ab,setAt,h1,h2,h4,er,eg,aa]
  |some i=>
   rw[c3] at h1;obtain⟨hi,_⟩:=jk c3;have ni:¬(i:Int)<0:=by omega
   have c0:=lG (named s.boxes nm);cases c2:(named s.boxes nm).isSome with
   |true=>
    rw[c2] at c0;simp only[decide_eq_true_eq] at c0;simp only[Bool.true_eq_false,and_false,if_false];generalize dO (named s.boxes nm)=z at*;simp only[ai,aW,boxes,ints,dO] at*;generalize s.boxes.map af=rb at*;generalize az s.gone=rs at*;simp (maxSteps:=9^9) [ba,cL.m,cL.b,ab,setAt,ni,c0,h1,h2,h3,h4,er,eg,aa]
   |false=>
    rw[c2] at c0;simp only[decide_eq_false_iff_not] at c0;rw[if_pos ⟨rfl,rfl⟩,mr c3 hi];have hG:=(eT c1).boxes.lY _ (aq hi);have hin:iL (j8 s nm s.boxes[i]):=⟨hG.u_.m,hG.u_.g,hn,hG.u_.f⟩;have h6:=aL.al ko _ (n6 hs.mT hi hin (by have:=oC c1;have:=hG.len;simp only[j8];omega));have a1:∀hh,(s.boxes.map af)[i]'hh=af s.boxes[i]:=by intro hh;simp
    have es:(gW s i (j8 s nm s.boxes[i])).boxes.map af=(s.boxes.map af).set i (af (j8 s nm s.boxes[i])):=by simp only[gW,iU]
    have ew:(gW s i (j8 s nm s.boxes[i])).df=s.df:=rfl;have et:(gW s i (j8 s nm s.boxes[i])).time=s.time+1:=rfl;have egn:(gW s i (j8 s nm s.boxes[i])).gone=s.gone:=rfl;unfold stamped;generalize dO (named s.boxes nm)=z at*;cases c:a8 (gW s i (j8 s nm s.boxes[i])) with
    |true=>
     rw[c] at h6;rw[if_pos rfl];simp only[ai,aW,boxes,ints,dO,es,ew,et,egn] at h1 h2 h3 h4 h5 h6 ⊢;clear es c;simp only[af,ae,ints,j8] at h6 a1 ⊢;generalize s.boxes.map af=rb at*;generalize az s.gone=rs at*;generalize s.boxes[i].ae.map ah=r1 at*;generalize az s.boxes[i].gone=r2 at*;simp (maxSteps:=9^9) [ba,cL.m,cL.b,ab,setAt,hi,ni,c0,h1,h2,h3,h4,h5,h6,e5,er,eg,a1,aa]
    |false=>
     rw[c] at h6;rw[if_neg (by decide)];simp only[ai,aW,boxes,ints,dO,es,ew,et,egn] at h1 h2 h3 h4 h5 h6 ⊢;clear es c;simp only[af,ae,ints,j8] at h6 a1 ⊢;generalize s.boxes.map af=rb at*;generalize az s.gone=rs at*;generalize s.boxes[i].ae.map ah=r1 at*;generalize az s.boxes[i].gone=r2 at*;simp (maxSteps:=9^9) [ba,cL.m,cL.b,ab,setAt,hi,ni,c0,h1,h2,h3,h4,h5,h6,e5,er,eg,a1,aa]
def mQ(s:aT)(g:Int):aT×Bool:=if a8 s=true∧s.gone.length<20 then at_ s g fun i _=>({s with boxes:=s.boxes.take i++s.boxes.drop (i+1),gone:=ld s.gone g},true) else(s,false)
theorem dK.al(h:dK.k M)(s:aT)(hs:mN s)(g:Int):
  run M 283 [.a (ai s),.c (I g)] []=some (.lN [.a (aW (mQ s g).1),.c (.bool (mQ s g).2)],[]):=by
 obtain⟨h0,kp,ko,kb,kc⟩:=h;have h1:=dC.al kb s g hs.mT.b;have h2:=aL.al ko s hs.mT;have h4:=cu.al kc s hs.mT;have h5:=b9.al kp s.gone g (by have:=hs.mT.g;omega);have er:(s.boxes.map af).length=s.boxes.length:=by simp
 have eg:=aN s.gone;have hbl:=hs.mT.b;refine aA (b:=dK.m) h0 ⟨0, ?_⟩;unfold mQ;cases c1:a8 s with
 |false=>
  rw[c1] at h2;simp only[au,false_and,if_false];simp only[ai,aW,boxes,ints] at*;generalize s.boxes.map af=rb at*;generalize az s.gone=rs at*;simp (maxSteps:=9^9) [ba,dK.m,dK.b,ab,setAt,h1,h2,h4,er,eg,aa]
 |true=>
  rw[c1] at h2;cases c3:mc s.boxes g with
  |none=>
   rw[c3] at h1;have e:(if true=true∧s.gone.length<20 then at_ s g fun i _=>({s with boxes:=s.boxes.take i++s.boxes.drop (i+1),gone:=ld s.gone g},true) else(s,false))=(s,false):=by
    rw[mu c3];split<;>rfl
   rw[e];simp only[ai,aW,boxes,ints,dO] at*;generalize s.boxes.map af=rb at*;generalize az s.gone=rs at*;simp (maxSteps:=9^9) [ba,dK.m,dK.b,ab,setAt,h1,h2,h4,er,eg,aa]
  |some i=>
   rw[c3] at h1;obtain⟨hi,_⟩:=jk c3;have ni:¬(i:Int)<0:=by omega
   by_cases c2:s.gone.length<20
   ·have c2':¬(20:Int)≤(s.gone.length:Int):=by omega
    have c2'':¬20≤s.gone.length:=by omega
    rw[if_pos ⟨rfl,c2⟩,mr c3 hi];have e5:=cA (i:=i) (by omega);have e6:(s.boxes.take i++s.boxes.drop (i+1)).map af=(s.boxes.map af).take i++(s.boxes.map af).drop (i+1):=by simp[List.map_take,List.map_drop]
    have e7:=aN (ld s.gone g);have e8:i≤s.boxes.length:=by omega
    have e9:i+(s.boxes.length-(i+1))≤4294967296:=by omega
    have e10:i≤4294967296:=by omega
    have e11:i+1≤s.boxes.length:=by omega
    have e12:Min.min i s.boxes.length=i:=by omega
    simp only[ai,aW,boxes,ints,dO,e6] at h1 h2 h4 h5 ⊢;generalize az (ld s.gone g)=rp at*;generalize s.boxes.map af=rb at*;generalize az s.gone=rs at*;have f1:(0:Int)≤(i:Int)+1:=by omega
    have f2:((i:Int)+1).toNat=i+1:=by omega
    by_cases c9:i+1=s.boxes.length
    ·have d1:rb.drop (i+1)=[]:=eO (by omega);have d2:rb.drop s.boxes.length=[]:=eO (by omega);have d3:s.boxes.length-(i+1)=0:=by omega
     have d4:¬s.boxes.length=0:=by omega
     rw[←c9] at hi er;simp (maxSteps:=9^9) [ba,dK.m,dK.b,ab,setAt,ni,c2',h1,h2,h4,h5,e5,e7,e10,d1,f1,f2,er,eg,aa]
    ·simp (maxSteps:=9^9) [ba,dK.m,dK.b,ab,setAt,ni,c2',c9,f1,f2,h1,h2,h4,h5,e5,e7,e8,e9,e10,e11,e12,er,eg,aa]
   ·have c2':(20:Int)≤(s.gone.length:Int):=by omega
    have c2'':20≤s.gone.length:=by omega
    simp only[c2,and_false,if_false];simp only[ai,aW,boxes,ints,dO] at*;generalize s.boxes.map af=rb at*;generalize az s.gone=rs at*;simp (maxSteps:=9^9) [ba,dK.m,dK.b,ab,setAt,ni,c2',h1,h2,h4,er,eg,aa]
structure LP where
 s:aT
 g:Int
 N:List T
 u3:Nat
 u6:Nat
 u8:Nat
 u9:Nat
 w2:Nat
 w3:Nat
def FJ(c:LP)(v n:Nat):List T:=[I c.s.df,I c.s.time,.row 30 v 0 n,.row 12903 c.w3 0 c.s.gone.length]
def Mb(c:LP)(i:Nat)(out:List bA)(y:Nat×Nat):St:={t:=[(1,.c (I c.g)),(3,.c (.ptr 3 c.u3 0 0)),(6,.c (.ptr 6 c.u6 0 0)),(8,.c (.ptr 8 c.u8 0 0)),(9,.c (.ptr 9 c.u9 0 0)),(10,.c (I i))],o:=[(3,⟨c.u3,4,true,true,[ai c.s]⟩),(6,⟨c.u6,4,true,true,[oM]⟩),(8,⟨c.u8,4,true,true,[FJ c y.1 out.length]⟩),(9,⟨c.u9,7,true,true,[c.N]⟩),(30,⟨y.1,7,true,false,out.map af⟩),(12902,⟨c.w2,7,true,false,c.s.boxes.map af⟩),(12903,⟨c.w3,1,true,false,az c.s.gone⟩)],n:=y.2}
def NK(c:LP)(out:List bA)(y:Nat×Nat):St:={t:=[(1,.c (I c.g)),(3,.c (.ptr 3 c.u3 0 0)),(6,.c (.ptr 6 c.u6 0 0)),(8,.c (.ptr 8 c.u8 0 0)),(9,.c (.ptr 9 c.u9 0 0)),(10,.c (I c.s.boxes.length)),(41,.c (.bool false))],o:=[(3,⟨c.u3,4,true,true,[ai c.s]⟩),(6,⟨c.u6,4,true,true,[oM]⟩),(8,⟨c.u8,4,true,true,[FJ c y.1 out.length]⟩),(9,⟨c.u9,7,true,true,[c.N]⟩),(30,⟨y.1,7,true,false,out.map af⟩),(12902,⟨c.w2,7,true,false,c.s.boxes.map af⟩),(12903,⟨c.w3,1,true,false,az c.s.gone⟩)],n:=y.2}
def Ma(c:LP)(i:Nat)(out:List bA)(y:Nat×Nat):St:={t:=[(1,.c (I c.g)),(3,.c (.ptr 3 c.u3 0 0)),(6,.c (.ptr 6 c.u6 0 0)),(8,.c (.ptr 8 c.u8 0 0)),(11,.c (I i))],o:=[(3,⟨c.u3,4,true,true,[ai c.s]⟩),(6,⟨c.u6,4,true,true,[oM]⟩),(8,⟨c.u8,4,true,true,[FJ c y.1 out.length]⟩),(30,⟨y.1,7,true,false,out.map af⟩),(12902,⟨c.w2,7,true,false,c.s.boxes.map af⟩),(12903,⟨c.w3,1,true,false,az c.s.gone⟩)],n:=y.2}
def NJ(c:LP)(out:List bA)(y:Nat×Nat):St:={t:=[(1,.c (I c.g)),(3,.c (.ptr 3 c.u3 0 0)),(6,.c (.ptr 6 c.u6 0 0)),(8,.c (.ptr 8 c.u8 0 0)),(11,.c (I c.s.boxes.length)),(73,.c (.bool false))],o:=[(3,⟨c.u3,4,true,true,[ai c.s]⟩),(6,⟨c.u6,4,true,true,[oM]⟩),(8,⟨c.u8,4,true,true,[FJ c y.1 out.length]⟩),(30,⟨y.1,7,true,false,out.map af⟩),(12902,⟨c.w2,7,true,false,c.s.boxes.map af⟩),(12903,⟨c.w3,1,true,false,az c.s.gone⟩)],n:=y.2}
theorem rk(p:bA→Bool):∀(l s:List bA),l.foldl (fun s a=>if p a=true then s++[a] else s) s=s++l.filter p
 |[],s=>by simp
 |a::l,s=>by
  rw[fa,rk p l,iX];by_cases h:p a=true<;>simp[h]
theorem IX(kc:cd.k M)(k:Nat)(c:LP)(hs:gJ c.s)(hk:c.s.boxes.length<k)(y:Nat×Nat):
  ∃z,eZ (ct (run M) k b4.l0) k (Mb c 0 [] y)=some (.exit 0,NK c (c.s.boxes.filter fun b=>decide (b.gid<c.g)) z):=by
 have hbl:=hs.b;have er:(c.s.boxes.map af).length=c.s.boxes.length:=by simp
 obtain⟨g,hr⟩:=jK (f:=ct (run M) k b4.l0) c.s.boxes (fun s b=>if decide (b.gid<c.g)=true then s++[b] else s) (fun i s=>s.length≤i) (Mb c) 0 (NK c)
  (fun i h s hs=>by split<;>(try simp)<;>omega)
  (fun i hi s y hi2=>by
   obtain⟨v,n⟩:=y;have hB:=hs.i _ (aq hi);have h1:=cd.al kc c.s.boxes[i] hB;have e5:=cA (i:=i) (by omega);have e6:s.length+1≤4294967296:=by omega
   have e9:(s.map af).length=s.length:=by simp
   have a1:∀hh,(c.s.boxes.map af)[i]'hh=af c.s.boxes[i]:=by intro hh;simp
   simp only[aE];by_cases q:c.s.boxes[i].gid<c.g
   ·simp only[q,decide_true,if_true,Mb,FJ,cg,bq,bF,ax,bZ];simp only[ai,af,cm,boxes,ae,ints] at a1 h1 ⊢;generalize c.s.boxes.map af=rb at*;generalize az c.s.gone=rs at*;generalize s.map af=ro at*;generalize c.s.boxes[i].ae.map ah=r1 at*;generalize az c.s.boxes[i].gone=r2 at*;simp (maxSteps:=9^9) [b4.l0,ab,setAt,hi,q,h1,e5,e6,e9,er,a1,aa]
   ·simp only[q,decide_false,au,if_false,Mb,FJ];simp only[ai,af,cm,boxes,ae,ints] at a1 h1 ⊢;generalize c.s.boxes.map af=rb at*;generalize az c.s.gone=rs at*;generalize s.map af=ro at*;generalize c.s.boxes[i].ae.map ah=r1 at*;generalize az c.s.boxes[i].gone=r2 at*;simp (maxSteps:=9^9) [b4.l0,ab,hi,q,e5,er,a1])
  (fun s y hs=>by
   obtain⟨v,n⟩:=y;simp only[aE,Mb,NK,FJ,ai,boxes,ints];generalize c.s.boxes.map af=rb at*;generalize az c.s.gone=rs at*;generalize s.map af=ro at*;simp (maxSteps:=9^9) [b4.l0,ab,er]) [] (by simp)
 rw[rk,List.nil_append] at hr;exact⟨_,gT (hr y) (by omega)⟩
theorem IW(kc:cd.k M)(k:Nat)(c:LP)(hs:gJ c.s)(hk:c.s.boxes.length<k)(o0:List bA)(ho:o0.length≤2097152)(y:Nat×Nat):
  ∃z,eZ (ct (run M) k b4.l1) k (Ma c 0 o0 y)=some (.exit 2,NJ c (o0++c.s.boxes.filter fun b=>decide (c.g<b.gid)) z):=by
 have hbl:=hs.b;have er:(c.s.boxes.map af).length=c.s.boxes.length:=by simp
 obtain⟨g,hr⟩:=jK (f:=ct (run M) k b4.l1) c.s.boxes (fun s b=>if decide (c.g<b.gid)=true then s++[b] else s) (fun i s=>s.length≤2097152+i) (Ma c) 2 (NJ c)
  (fun i h s hs=>by split<;>(try simp)<;>omega)
  (fun i hi s y hi2=>by
   obtain⟨v,n⟩:=y;have hB:=hs.i _ (aq hi);have h1:=cd.al kc c.s.boxes[i] hB;have e5:=cA (i:=i) (by omega);have e6:s.length+1≤4294967296:=by omega
   have e9:(s.map af).length=s.length:=by simp
   have a1:∀hh,(c.s.boxes.map af)[i]'hh=af c.s.boxes[i]:=by intro hh;simp
   simp only[aE];by_cases q:c.g<c.s.boxes[i].gid
   ·simp only[q,decide_true,if_true,Ma,FJ,cg,bq,bF,ax,bZ];simp only[ai,af,cm,boxes,ae,ints] at a1 h1 ⊢;generalize c.s.boxes.map af=rb at*;generalize az c.s.gone=rs at*;generalize s.map af=ro at*;generalize c.s.boxes[i].ae.map ah=r1 at*;generalize az c.s.boxes[i].gone=r2 at*;simp (maxSteps:=9^9) [b4.l1,ab,setAt,hi,q,h1,e5,e6,e9,er,a1,aa]
   ·simp only[q,decide_false,au,if_false,Ma,FJ];simp only[ai,af,cm,boxes,ae,ints] at a1 h1 ⊢;generalize c.s.boxes.map af=rb at*;generalize az c.s.gone=rs at*;generalize s.map af=ro at*;generalize c.s.boxes[i].ae.map ah=r1 at*;generalize az c.s.boxes[i].gone=r2 at*;simp (maxSteps:=9^9) [b4.l1,ab,hi,q,e5,er,a1])
  (fun s y hs=>by
   obtain⟨v,n⟩:=y;simp only[aE,Ma,NJ,FJ,ai,boxes,ints];generalize c.s.boxes.map af=rb at*;generalize az c.s.gone=rs at*;generalize s.map af=ro at*;simp (maxSteps:=9^9) [b4.l1,ab,er]) o0 (by omega)
 rw[rk] at hr;exact⟨_,gT (hr y) (by omega)⟩
def kE(s:aT)(g:Int)(nm:List UInt8):bA:=⟨g,nm,s.time+1,s.df,1,[],[]⟩
def gC(s:aT)(g:Int)(nm:List UInt8):aT:={s with boxes:=(s.boxes.filter fun b=>decide (b.gid<g))++[kE s g nm]++s.boxes.filter fun b=>decide (g<b.gid),time:=s.time+1}
def mo(s:aT)(g:Int)(nm:List UInt8):aT×Bool:=if a8 s=true∧oP s g=false∧(named s.boxes nm).isSome=false then(if a8 (gC s g nm)=true then(gC s g nm,true) else(s,false)) else(s,false)
theorem zk{s:aT}(h:a8 s=true)(g:Int)(nm:List UInt8)(hn:nm.length≤1048576):gJ (gC s g nm):=by
 have G:=eT h;have hl:=G.boxes.len;have f1:=bP (fun b:bA=>decide (b.gid<g)) s.boxes;have f2:=bP (fun b:bA=>decide (g<b.gid)) s.boxes;have hin:∀x∈(gC s g nm).boxes,x∈s.boxes∨x=kE s g nm:=fun x hx=>by
  simp only[gC,iC,fN,gz] at hx;rcases hx with (q|q)|q
  ·exact .inl q.1
  ·exact .inr q
  ·exact .inl q.1
 have hlen:(gC s g nm).boxes.length≤11:=by simp only[gC,ax,bZ];omega
 have key:∀l:List bA,(∀x∈l,x.ae.length≤10)→(l.flatMap b_).length≤10*l.length:=by
  intro l
  induction l with
  |nil=>intro _;simp
  |cons x l ih=>
   intro h;have h1:=ih fun y hy=>h y (bo _ hy)
   have h2:=h x (bf ..);simp only[cI,ax,b_,de,bK] at h1 ⊢;omega
 refine⟨by omega,by have:=G.gone;simp only[gC];omega,fun x hx=> ?_, ?_⟩
 ·rcases hin x hx with q|q
  ·exact(G.boxes.lY x q).u_
  ·rw[q];exact⟨by simp[kE],by simp[kE],hn,by simp[kE]⟩
 ·have:=key (gC s g nm).boxes fun x hx=>by
   rcases hin x hx with q|q
   ·exact(G.boxes.lY x q).len
   ·rw[q];simp[kE]
  omega
theorem b4.al(h:b4.k M)(s:aT)(hs:mN s)(g:Int)(nm:List UInt8)(hn:nm.length≤1048576):
  run M 278 [.a (ai s),.c (I g),.c (S nm)] []=some (.lN [.a (aW (mo s g nm).1),.c (.bool (mo s g nm).2)],[]):=by
 obtain⟨h0,ko,kc6,kc,kn,kk,kst⟩:=h;have ht:=hs.time;have hbl:=hs.mT.b;have h2:=aL.al ko s hs.mT;have h3:=cH.al kn s nm hs.mT.b;have h7:=eU.al kk s g hs.mT;have h4:=cu.al kc s hs.mT;have h5:=dY.al kst s hs.time;have er:(s.boxes.map af).length=s.boxes.length:=by simp
 have eg:=aN s.gone;have e5:IntKind.i64.wrap (s.time+1)=s.time+1:=wrap_i64 (by omega) (by omega);have c0:=lG (named s.boxes nm);refine aA (b:=b4.m) h0 ⟨s.boxes.length+1, ?_⟩;unfold mo;cases c1:a8 s with
 |false=>
  rw[c1] at h2;simp only[au,false_and,if_false];simp only[ai,aW,boxes,ints] at*;generalize s.boxes.map af=rb at*;generalize az s.gone=rs at*;simp (maxSteps:=9^9) [ba,b4.m,b4.b,ab,setAt,h2,h4,er,eg,aa]
 |true=>
  rw[c1] at h2;cases c2:oP s g with
  |true=>
   rw[c2] at h7;simp only[Bool.true_eq_false,false_and,and_false,if_false];simp only[ai,aW,boxes,ints] at*;generalize s.boxes.map af=rb at*;generalize az s.gone=rs at*;simp (maxSteps:=9^9) [ba,b4.m,b4.b,ab,setAt,h2,h4,h7,er,eg,aa]
  |false=>
   rw[c2] at h7;cases c3:(named s.boxes nm).isSome with
   |true=>
    rw[c3] at c0;simp only[decide_eq_true_eq] at c0;simp only[Bool.true_eq_false,and_false,if_false];generalize dO (named s.boxes nm)=z at*;simp only[ai,aW,boxes,ints] at*;generalize s.boxes.map af=rb at*;generalize az s.gone=rs at*;simp (maxSteps:=9^9) [ba,b4.m,b4.b,ab,setAt,c0,h2,h3,h4,h7,er,eg,aa]
   |false=>
    rw[c3] at c0;simp only[decide_eq_false_iff_not] at c0;rw[if_pos ⟨rfl,rfl,rfl⟩];have h6:=aL.al ko _ (zk c1 g nm hn);obtain⟨⟨v1,n1⟩,r1⟩:=IX kc6 (s.boxes.length+1) ⟨s,g,[I g,S nm,I (s.time+1),I s.df,I 1,.aK 4,.aK 1],2000000,2000016,2000304,2000464,2000290,2000291⟩ hs.mT (by simp only;omega) (2000336,2000512);have f1:=bP (fun b:bA=>decide (b.gid<g)) s.boxes;have f2:=bP (fun b:bA=>decide (g<b.gid)) s.boxes;obtain⟨⟨v2,n2⟩,r2⟩:=IW kc6 (s.boxes.length+1) ⟨s,g,[],2000000,2000016,2000304,0,2000290,2000291⟩ hs.mT (by simp only;omega) ((s.boxes.filter fun b=>decide (b.gid<g))++[kE s g nm]) (by simp;omega) (n1+64,n1+128);have ez:((0:Nat):Int)=0:=rfl;have el1:((s.boxes.filter fun b=>decide (b.gid<g)).map af).length=(s.boxes.filter fun b=>decide (b.gid<g)).length:=by simp
    have em:(((s.boxes.filter fun b=>decide (b.gid<g))++[kE s g nm]).map af)=(s.boxes.filter fun b=>decide (b.gid<g)).map af++[[I g,S nm,I (s.time+1),I s.df,I 1,.sl false 4 [],.sl false 1 []]]:=by simp[kE,af,az]
    have eml:((s.boxes.filter fun b=>decide (b.gid<g))++[kE s g nm]).length=(s.boxes.filter fun b=>decide (b.gid<g)).length+1:=by simp
    have e6:(s.boxes.filter fun b=>decide (b.gid<g)).length+1≤4294967296:=by omega
    have emt:(gC s g nm).boxes=(s.boxes.filter fun b=>decide (b.gid<g))++[kE s g nm]++s.boxes.filter fun b=>decide (g<b.gid):=rfl
    have el2:((gC s g nm).boxes.map af).length=(gC s g nm).boxes.length:=by simp
    have ew:(gC s g nm).df=s.df:=rfl;have et:(gC s g nm).time=s.time+1:=rfl;have egn:(gC s g nm).gone=s.gone:=rfl;simp only[Mb,NK,FJ,ez,bF,dM] at r1;simp only[Ma,NJ,FJ,ez,←emt,em,eml] at r2;clear emt em eml;generalize dO (named s.boxes nm)=z at*;generalize (s.boxes.filter fun b=>decide (b.gid<g)).map af=rf at*;generalize (s.boxes.filter fun b=>decide (b.gid<g)).length=nf at*;cases c:a8 (gC s g nm) with
    |true=>
     rw[c] at h6;rw[if_pos rfl];simp only[ai,aW,boxes,ints,ew,et,egn] at h2 h3 h4 h5 h6 h7 r1 r2 ⊢;clear c;generalize (gC s g nm).boxes.map af=rm at*;generalize (gC s g nm).boxes.length=nm2 at*;generalize s.boxes.map af=rb at*;generalize az s.gone=rs at*;simp (maxSteps:=9^9) [ba,b4.m,b4.b,ab,setAt,c0,h2,h3,h4,h5,h6,h7,r1,r2,e5,e6,el1,el2,er,eg,aa]
    |false=>
     rw[c] at h6;rw[if_neg (by decide)];simp only[ai,aW,boxes,ints,ew,et,egn] at h2 h3 h4 h5 h6 h7 r1 r2 ⊢;clear c;generalize (gC s g nm).boxes.map af=rm at*;generalize (gC s g nm).boxes.length=nm2 at*;generalize s.boxes.map af=rb at*;generalize az s.gone=rs at*;simp (maxSteps:=9^9) [ba,b4.m,b4.b,ab,setAt,c0,h2,h3,h4,h5,h6,h7,r1,r2,e5,e6,el1,el2,er,eg,aa]
end Mx
namespace Mx
open Go
structure Nk (s:aT):Prop where
 df:1≤s.df∧s.df≤2
 time:0≤s.time∧s.time≤100000
 len:s.boxes.length≤5
 gone:yX s.gone
 xW:∀g∈s.gone,1≤g∧g≤9999
 nV:s.gone.length≤20
 box:∀b∈s.boxes,Good b∧¬b.gid∈s.gone∧late b s.time=false
 Ku:s.boxes.Pairwise fun x y=>x.gid<y.gid
 names:s.boxes.Pairwise fun x y=>x.name≠y.name
 ae:(s.boxes.flatMap b_).Nodup
theorem Gs{l:List bA}(i:Nat)(hi:i<l.length):dO (named l l[i].name)=(i:Int)↔∀j (hj:j<i),(l[j]'(by omega)).name≠l[i].name:=by
 unfold named;constructor
 ·intro h j hj e;cases q:l.findIdx? (fun b=>decide (b.name=l[i].name)) with
  |none=>rw[q] at h;simp[dO] at h
  |some k=>
   rw[q] at h;simp only[dO] at h;have hk:k=i:=by omega
   subst hk;have:=(List.findIdx?_eq_some_iff_getElem.1 q).2.2 j hj;simp[e] at this
 ·intro h;have:l.findIdx? (fun b=>decide (b.name=l[i].name))=some i:=List.findIdx?_eq_some_iff_getElem.2 ⟨hi,by simp,fun j hj=>by simpa using h j hj⟩;rw[this];rfl
theorem BA(seen l:List Int)(hs:seen.Nodup):vh seen l=false↔(seen++l).Nodup:=by
 have h0:vh seen l=false↔∀k (hk:k<l.length),¬l[k]∈seen++l.take k:=by
  unfold vh;rw[Option.isSome_eq_false_iff,cn,ju];constructor
  ·intro h k hk c;have:=h k hk;rw[qn hk] at this;simp only[decide_eq_false_iff_not] at this;exact this c
  ·intro h k hk;rw[qn hk];simpa using h k hk
 rw[h0];constructor
 ·intro h;have key:∀k,k≤l.length→(seen++l.take k).Nodup:=by
   intro k
   induction k with
   |zero=>intro _;simpa using hs
   |succ k ih=>
    intro hk;rw[iA l k (by omega),←bN,List.nodup_append];refine⟨ih (by omega),by simp,fun a ha b hb e=> ?_⟩;simp only[gz] at hb;subst hb;subst e;exact h k (by omega) ha
  have:=key l.length (Nat.le_refl _)
  rwa [List.take_length] at this
 ·intro h k hk c;have e:l=l.take k++l[k]::l.drop (k+1):=by rw[←bD hk,cr]
  rw[e,←bN,List.nodup_append] at h;exact h.2.2 _ c _ (bf ..) rfl
theorem F9(s:aT):(∀i (hi:i<s.boxes.length),vh (seenAt s i) (b_ s.boxes[i])=false)↔(s.boxes.flatMap b_).Nodup:=by
 have ha:seenAt s s.boxes.length=s.boxes.flatMap b_:=by simp[seenAt]
 constructor
 ·intro h;have key:∀k,k≤s.boxes.length→(seenAt s k).Nodup:=by
   intro k
   induction k with
   |zero=>intro _;simp[seenAt]
   |succ k ih=>
    intro hk;rw[pQ (by omega)];exact(BA _ _ (ih (by omega))).1 (h k (by omega))
  rw[←ha];exact key _ (Nat.le_refl _)
 ·intro h i hi;have hsub:(seenAt s (i+1)).Sublist (s.boxes.flatMap b_):=by
   have e:s.boxes.flatMap b_=seenAt s (i+1)++(s.boxes.drop (i+1)).flatMap b_:=by
    rw[seenAt,←List.flatMap_append,cr]
   rw[e];exact List.sublist_append_left ..
  have h1:=h.sublist hsub;rw[pQ hi] at h1;exact(BA _ _ (List.nodup_append.1 h1).1).2 h1
theorem iI{s:aT}:a8 s=true↔Nk s:=by
 have hsplit:(∀i (hi:i<s.boxes.length),qw s i=false)↔(∀i (hi:i<s.boxes.length),vu s i=false)∧(∀i (hi:i<s.boxes.length),vh (seenAt s i) (b_ s.boxes[i])=false):=by
  constructor
  ·intro h;exact⟨fun i hi=>by have:=h i hi;rw[og hi,gi] at this;exact this.1,fun i hi=>by have:=h i hi;rw[og hi,gi] at this;exact this.2⟩
  ·intro h i hi;rw[og hi,gi];exact⟨h.1 i hi,h.2 i hi⟩
 have hbox:∀i (hi:i<s.boxes.length),vu s i=false↔fE s.boxes[i]=true∧(0<i→(s.boxes[i-1]'(by omega)).gid<s.boxes[i].gid)∧(∀j (hj:j<i),(s.boxes[j]'(by omega)).name≠s.boxes[i].name)∧¬s.boxes[i].gid∈s.gone∧late s.boxes[i] s.time=false:=fun i hi=>by
  rw[oG hi,←Gs i hi];simp only[gi,Bool.not_eq_eq_eq_not,Bool.not_false,Bool.and_eq_false_imp,decide_eq_true_eq,decide_eq_false_iff_not,Int.not_le];constructor
  ·rintro ⟨⟨⟨⟨h1,h2⟩,h3⟩,h4⟩,h5⟩;exact⟨h1,h2,h3,h4,h5⟩
  ·rintro ⟨h1,h2,h3,h4,h5⟩;exact⟨⟨⟨⟨h1,h2⟩,h3⟩,h4⟩,h5⟩
 have hq:a8 s=true↔((((1≤s.df∧s.df≤2)∧0≤s.time∧s.time≤100000)∧s.boxes.length≤5)∧lZ s.gone 20=true)∧∀i (hi:i<s.boxes.length),qw s i=false:=by
  simp only[a8,aj,decide_eq_true_eq,cn,ju,jI]
 rw[hq,hsplit,F9];constructor
 ·rintro ⟨⟨⟨⟨h1,h2⟩,h3⟩,h4⟩,h5,h6⟩;obtain⟨g1,g2,g3⟩:=pF.1 h4;have hb:=fun i hi=>(hbox i hi).1 (h5 i hi)
  refine⟨h1,h2,h3,g1,g2,by omega,fun b hbm=> ?_, ?_, ?_,h6⟩
  ·obtain⟨i,hi,rfl⟩:=bW hbm;exact⟨qv.1 (hb i hi).1,(hb i hi).2.2.2.1,(hb i hi).2.2.2.2⟩
  ·have hA:yX (s.boxes.map (·.gid)):=w_ fun j hj=>by
    simp only[de] at hj;have:=(hb (j+1) hj).2.1 (by omega);simpa using this
   exact List.pairwise_map.1 hA
  ·exact List.pairwise_iff_getElem.2 fun i j hi hj hij=>(hb j hj).2.2.1 i hij
 ·intro h;refine⟨⟨⟨⟨h.df,h.time⟩,h.len⟩,pF.2 ⟨h.gone,h.xW,by have:=h.nV;omega⟩⟩,fun i hi=>(hbox i hi).2 ⟨qv.2 (h.box _ (aq hi)).1,fun q=>List.pairwise_iff_getElem.1 h.Ku (i-1) i (by omega) hi (by omega),fun j hj=>List.pairwise_iff_getElem.1 h.names j i (by omega) hi hj,(h.box _ (aq hi)).2.1,(h.box _ (aq hi)).2.2⟩,h.ae⟩
theorem GZ{l l':List bA}(h:l.Sublist l'):(l.flatMap b_).Sublist (l'.flatMap b_):=by
 induction h with
 |slnil=>exact List.Sublist.refl _
 |cons a _ ih=>rw[cI];exact ih.trans (List.sublist_append_right _ _)
 |cons_cons a _ ih=>rw[cI,cI];exact List.Sublist.append (List.Sublist.refl _) ih
theorem qH{s:aT}(h:a8 s=true)(i:Nat)(b:bA):a8 (stamped s i b).1=true:=by
 unfold stamped;split
 ·rename_i c;exact c
 ·exact h
theorem D3{s:aT}(h:a8 s=true)(g:Int)(f:Nat→bA→aT×Bool)(hf:∀i (hi:i<s.boxes.length),a8 (f i s.boxes[i]).1=true):a8 (at_ s g f).1=true:=by
 cases c:mc s.boxes g with
 |none=>rw[mu c];exact h
 |some i=>
  obtain⟨hi,_⟩:=jk c;rw[mr c hi];exact hf i hi
theorem xy{s:aT}(h:a8 s=true)(g m f:Int)(x:List UInt8):a8 (mP s g m f x).1=true:=by
 unfold mP;split
 ·refine D3 h _ _ fun i hi=> ?_
  split
  ·exact qH h _ _
  ·exact h
 ·exact h
theorem vO{s:aT}(h:a8 s=true)(g m f:Int):a8 (lD s g m f).1=true:=by
 unfold lD;rw[if_pos h];refine D3 h _ _ fun i hi=> ?_
 split
 ·exact qH h _ _
 ·exact h
theorem tZ{s:aT}(h:a8 s=true)(g:Int)(nm:List UInt8):a8 (kN s g nm).1=true:=by
 unfold kN;split
 ·exact D3 h _ _ fun i hi=>qH h _ _
 ·exact h
theorem tz{s:aT}(h:a8 s=true)(g:Int)(nm:List UInt8):a8 (mo s g nm).1=true:=by
 unfold mo;split
 ·split
  ·rename_i c;exact c
  ·exact h
 ·exact h
theorem tI{s:aT}(h:a8 s=true){g:Int}(hg:1≤g∧g≤9999):a8 (mQ s g).1=true:=by
 unfold mQ;split
 ·rename_i c;cases q:mc s.boxes g with
  |none=>rw[mu q];exact h
  |some i=>
   obtain⟨hi,hbi⟩:=jk q;rw[mr q hi];have G:=iI.1 h;have hs:=nH s.boxes i;have hgi:=(lu hbi).2;refine iI.2 ⟨G.df,G.time,Nat.le_trans hs.length_le G.len,uu G.gone,fun x hx=> ?_,by have:=wM s.gone g;simp only;omega,fun b hb=> ?_,G.Ku.sublist hs,G.names.sublist hs,G.ae.sublist (GZ hs)⟩
   ·rcases oS.1 hx with e|e
    ·rw[e];exact hg
    ·exact G.xW x e
   ·obtain⟨b1,b2,b3⟩:=G.box b (hs.subset hb);refine⟨b1,fun e=> ?_,b3⟩;rcases oS.1 e with e|e
    ·rcases List.mem_append.1 hb with z|z
     ·obtain⟨j,hj,rfl⟩:=bW z;simp only[eD] at hj;rw[List.getElem_take] at e;have:=List.pairwise_iff_getElem.1 G.Ku j i (by omega) hi (by omega);omega
     ·obtain⟨j,hj,rfl⟩:=bW z;rw[List.getElem_drop] at e;have:=List.pairwise_iff_getElem.1 G.Ku i (i+1+j) hi (by simp at hj;omega) (by omega);omega
    ·exact b2 e
 ·exact h
theorem yI{b:bA}(hb:Good b){m:Int}(ok:(kL b m).2=true):Good (kL b m).1∧(kL b m).1.gid=b.gid∧(kL b m).1.name=b.name∧(kL b m).1.time=b.time∧(kL b m).1.ae.Sublist b.ae:=by
 unfold kL at ok ⊢;cases q:gg b.ae m with
 |none=>rw[q] at ok;cases ok
 |some k=>
  rw[q] at ok;simp only at ok ⊢;obtain⟨hlt,he,_⟩:=nP q;by_cases c:fE b=true∧b.gone.length<40
  ·rw[if_pos c];have:=E6 hb hlt c.2;rw[he] at this;exact⟨this,rfl,rfl,rfl,nH b.ae k⟩
  ·rw[if_neg c] at ok;cases ok
theorem r_{s:aT}(h:a8 s=true)(g m:Int):a8 (lK s g m).1=true:=by
 unfold lK;rw[if_pos h];refine D3 h _ _ fun i hi=> ?_
 split
 ·rename_i c;have G:=iI.1 h;obtain⟨b1,b2,b3⟩:=G.box _ (aq hi);obtain⟨t1,t2,t3,t4,t5⟩:=yI b1 c;generalize (kL s.boxes[i] m).1=b' at*;have e1:(s.boxes.set i b').map (·.gid)=s.boxes.map (·.gid):=by
   rw[iU];apply List.ext_getElem<;>simp[List.getElem_set];intro j hj h2;subst h2;exact t2
  have e2:(s.boxes.set i b').map (·.name)=s.boxes.map (·.name):=by
   rw[iU];apply List.ext_getElem<;>simp[List.getElem_set];intro j hj h2;subst h2;exact t3
  refine iI.2 ⟨G.df,G.time,by simpa using G.len,G.gone,G.xW,G.nV,fun b hb=> ?_, ?_, ?_, ?_⟩
  ·rcases List.mem_or_eq_of_mem_set hb with q|q
   ·exact G.box b q
   ·subst q;refine⟨t1,by rw[t2];exact b2, ?_⟩;unfold late at b3 ⊢;simp only[gi,List.any_eq_false] at b3 ⊢;rw[t4];exact⟨b3.1,fun x hx=>b3.2 x (t5.subset hx)⟩
  ·have:(s.boxes.map (·.gid)).Pairwise (fun a b:Int=>a<b):=List.pairwise_map.2 G.Ku;rw[←e1] at this;exact List.pairwise_map.1 this
  ·have:(s.boxes.map (·.name)).Pairwise (fun a b:List UInt8=>a≠b):=List.pairwise_map.2 G.names;rw[←e2] at this;exact List.pairwise_map.1 this
  ·have e:s.boxes.set i b'=s.boxes.take i++b'::s.boxes.drop (i+1):=List.set_eq_take_append_cons_drop.trans (by rw[if_pos hi]);have e':s.boxes=s.boxes.take i++s.boxes[i]::s.boxes.drop (i+1):=by rw[←bD hi,cr]
   have hm:=G.ae;rw[e'] at hm;simp only;rw[e];refine hm.sublist ?_;simp only[List.flatMap_append,cI];exact List.Sublist.append (List.Sublist.refl _) (List.Sublist.append (t5.map _) (List.Sublist.refl _))
 ·exact h
end Mx
namespace Mx
open Go
variable {M:Nat→Option Body}
structure yG where
 i:Nat
 s:aT
 w:Bool
 v1:Nat
 v2:Nat
 ic:Nat
 q:Int
 n:Nat
structure yV where
 R:List (List T)
 u5:Nat
 u8:Nat
 N:Nat
 base:Nat
def Dt(s:yG):List T:=if s.w=true then [I s.s.df,I s.s.time,.row 15502 s.v1 0 s.s.boxes.length,.row 15503 s.v2 0 s.s.gone.length] else ai s.s
def Dq(s:yG):List (Nat×Ob):=if s.w=true then [(15502,⟨s.v1,7,true,false,s.s.boxes.map af⟩),(15503,⟨s.v2,1,true,false,az s.s.gone⟩)] else []
def Ds(c:yV)(s:yG):List (Nat×Ob):=iG c.R s.ic s.q::(5,⟨c.u5,4,true,true,[Dt s]⟩)::(8,⟨c.u8,4,true,true,[oM]⟩)::Dq s
def Dr(c:yV)(i:Nat)(e:List (Nat×V)):List (Nat×V):=(0,.c (.ptr 0 0 0 0))::(2,.c (I c.N))::(3,.c (I c.base))::(5,.c (.ptr 5 c.u5 0 0))::(8,.c (.ptr 8 c.u8 0 0))::(9,.c (I i))::e
def rI(c:yV)(s:yG)(e:List (Nat×V)):St:={t:=Dr c s.i e,o:=Ds c s,n:=s.n}
def Mq(c:yV)(i:Nat)(s:aT)(w:Bool)(ic:Nat)(q:Int)(e:List (Nat×V))(y:Nat×Nat×Nat):St:=rI c ⟨i,s,w,y.1,y.2.1,ic,q,y.2.2⟩ e
abbrev B3(box gid x:Int):List (Nat×V):=[(10,.c (I box)),(11,.c (I gid)),(13,.c (I x))]
def FM(M:Nat→Option Body)(c:yV)(k:Nat)(s:yG)(box gid x:Int)(s':aT)(ic':Nat)(q':Int):Prop:=
 ∃v1' v2' n',ct (run M) k bc.br (rI c s (B3 box gid x))=some (.normal,rI c ⟨s.i,s',true,v1',v2',ic',q',n'⟩ [])
structure O3 (s:yG):Prop where
 e7:(s.s.boxes.map af).length=s.s.boxes.length
 e8:(az s.s.gone).length=s.s.gone.length
theorem Kg(s:yG):O3 s:=⟨by simp,aN _⟩
theorem KA(c:yV)(k:Nat)(s:yG)(box gid x:Int)(f ic1 ic2:Nat)(tx:ByteArray)(q1 q2:Int)(s':aT)(ok:Bool)(hb:¬box=0)(hx:¬x=0)(hx6:x<6)(hbase:c.base≤1000)(hi:s.i≤1000)
  (h1:run M 125 [.c (.ptr 0 0 0 0),.c (I 8)] [iG c.R s.ic s.q]=some (.c (I f),[iG c.R ic1 q1]))
  (h2:run M 174 [.c (.ptr 0 0 0 0)] [iG c.R ic1 q1]=some (.c (.str tx),[iG c.R ic2 q2]))
  (h3:run M 279 [.a (ai s.s),.c (I box),.c (I ((c.base:Int)+(s.i:Int))),.c (I f),.c (.str tx)] []=some (.lN [.a (aW s'),.c (.bool ok)],[])):
  FM M c k s box gid x s' ic2 q2:=by
 have e4:IntKind.i64.wrap ((c.base:Int)+(s.i:Int))=(c.base:Int)+(s.i:Int):=wrap_i64 (by omega) (by omega);obtain⟨e7,e8⟩:=Kg s;have e9:(s'.boxes.map af).length=s'.boxes.length:=by simp
 have e10:=aN s'.gone;obtain⟨R,u5,u8,N,base⟩:=c;obtain⟨i,st,w,v1,v2,ic,q,n⟩:=s;simp only at*;simp only[FM,rI,Dr,Ds,Dt,Dq,B3];simp only[ai,aW,boxes,ints] at h3 ⊢;have m1:(st.boxes.map af).take st.boxes.length=st.boxes.map af:=aa (by omega);have m2:(az st.gone).take st.gone.length=az st.gone:=aa (by omega);generalize s'.boxes.map af=rb' at*;generalize az s'.gone=rg' at*;generalize st.boxes.map af=rb at*;generalize az st.gone=rg at*;cases w
 ·simp only[au,if_false];simp (maxSteps:=9^9) [bc.br,ab,setAt,h1,h2,h3,hb,hx,hx6,e4,e9,e10]
 ·simp only[if_true];simp (maxSteps:=9^9) [bc.br,ab,setAt,h1,h2,h3,hb,hx,hx6,e4,e7,e8,e9,e10,m1,m2]
theorem Ia(c:yV)(k:Nat)(s:yG)(box gid x:Int)(f ic1:Nat)(q1:Int)(s':aT)(ok:Bool)(hb:¬box=0)(hx:¬x=0)(hx6:¬x<6)(hx9:x<9)
  (h1:run M 125 [.c (.ptr 0 0 0 0),.c (I 8)] [iG c.R s.ic s.q]=some (.c (I f),[iG c.R ic1 q1]))
  (h3:run M 280 [.a (ai s.s),.c (I box),.c (I gid),.c (I f)] []=some (.lN [.a (aW s'),.c (.bool ok)],[])):
  FM M c k s box gid x s' ic1 q1:=by
 obtain⟨e7,e8⟩:=Kg s;have e9:(s'.boxes.map af).length=s'.boxes.length:=by simp
 have e10:=aN s'.gone;obtain⟨R,u5,u8,N,base⟩:=c;obtain⟨i,st,w,v1,v2,ic,q,n⟩:=s;simp only at*;simp only[FM,rI,Dr,Ds,Dt,Dq,B3];simp only[ai,aW,boxes,ints] at h3 ⊢;have m1:(st.boxes.map af).take st.boxes.length=st.boxes.map af:=aa (by omega);have m2:(az st.gone).take st.gone.length=az st.gone:=aa (by omega);generalize s'.boxes.map af=rb' at*;generalize az s'.gone=rg' at*;generalize st.boxes.map af=rb at*;generalize az st.gone=rg at*;cases w
 ·simp only[au,if_false];simp (maxSteps:=9^9) [bc.br,ab,setAt,h1,h3,hb,hx,hx6,hx9,e9,e10]
 ·simp only[if_true];simp (maxSteps:=9^9) [bc.br,ab,setAt,h1,h3,hb,hx,hx6,hx9,e7,e8,e9,e10,m1,m2]
theorem Ig(c:yV)(k:Nat)(s:yG)(box gid x:Int)(s':aT)(ok:Bool)(hb:¬box=0)(hx:x=9)
  (h3:run M 281 [.a (ai s.s),.c (I box),.c (I gid)] []=some (.lN [.a (aW s'),.c (.bool ok)],[])):
  FM M c k s box gid x s' s.ic s.q:=by
 subst hx;obtain⟨e7,e8⟩:=Kg s;have e9:(s'.boxes.map af).length=s'.boxes.length:=by simp
 have e10:=aN s'.gone;obtain⟨R,u5,u8,N,base⟩:=c;obtain⟨i,st,w,v1,v2,ic,q,n⟩:=s;simp only at*;simp only[FM,rI,Dr,Ds,Dt,Dq,B3];simp only[ai,aW,boxes,ints] at h3 ⊢;have m1:(st.boxes.map af).take st.boxes.length=st.boxes.map af:=aa (by omega);have m2:(az st.gone).take st.gone.length=az st.gone:=aa (by omega);generalize s'.boxes.map af=rb' at*;generalize az s'.gone=rg' at*;generalize st.boxes.map af=rb at*;generalize az st.gone=rg at*;cases w
 ·simp only[au,if_false];simp (maxSteps:=9^9) [bc.br,ab,setAt,h3,hb,e9,e10]
 ·simp only[if_true];simp (maxSteps:=9^9) [bc.br,ab,setAt,h3,hb,e7,e8,e9,e10,m1,m2]
def NA:List (List UInt8):=[[105,110,98,111,120],[119,111,114,107],[110,101,119],[111,116,104,101,114]]
def NB:List (List UInt8):=[[105,110,98,111,120],[119,111,114,107],[111,108,100]]
theorem H_(c:yV)(k:Nat)(s:yG)(box gid x:Int)(ic1:Nat)(tx:ByteArray)(q1:Int)(s':aT)(ok:Bool)(hb:¬box=0)(hx:x=10)
  (h1:run M 185 [.c (.ptr 0 0 0 0),.c (.sl false 1 (NA.map fun s=>[S s]))] [iG c.R s.ic s.q]=some (.c (.str tx),[iG c.R ic1 q1]))
  (h3:run M 282 [.a (ai s.s),.c (I box),.c (.str tx)] []=some (.lN [.a (aW s'),.c (.bool ok)],[])):
  FM M c k s box gid x s' ic1 q1:=by
 subst hx;obtain⟨e7,e8⟩:=Kg s;have e9:(s'.boxes.map af).length=s'.boxes.length:=by simp
 have e10:=aN s'.gone;simp only[NA,bq,bF] at h1;obtain⟨R,u5,u8,N,base⟩:=c;obtain⟨i,st,w,v1,v2,ic,q,n⟩:=s;simp only at*;simp only[FM,rI,Dr,Ds,Dt,Dq,B3];simp only[ai,aW,boxes,ints] at h3 ⊢;have m1:(st.boxes.map af).take st.boxes.length=st.boxes.map af:=aa (by omega);have m2:(az st.gone).take st.gone.length=az st.gone:=aa (by omega);generalize s'.boxes.map af=rb' at*;generalize az s'.gone=rg' at*;generalize st.boxes.map af=rb at*;generalize az st.gone=rg at*;cases w
 ·simp only[au,if_false];simp (maxSteps:=9^9) [bc.br,ab,setAt,h1,h3,hb,e9,e10]
 ·simp only[if_true];simp (maxSteps:=9^9) [bc.br,ab,setAt,h1,h3,hb,e7,e8,e9,e10,m1,m2]
theorem Ib(c:yV)(k:Nat)(s:yG)(box gid x:Int)(ic1:Nat)(tx:ByteArray)(q1:Int)(s':aT)(ok:Bool)(hb:box=0∨x=0)(hbase:c.base≤1000)(hi:s.i≤1000)
  (h1:run M 185 [.c (.ptr 0 0 0 0),.c (.sl false 1 (NB.map fun s=>[S s]))] [iG c.R s.ic s.q]=some (.c (.str tx),[iG c.R ic1 q1]))
  (h3:run M 278 [.a (ai s.s),.c (I ((c.base:Int)+(s.i:Int))),.c (.str tx)] []=some (.lN [.a (aW s'),.c (.bool ok)],[])):
  FM M c k s box gid x s' ic1 q1:=by
 have e4:IntKind.i64.wrap ((c.base:Int)+(s.i:Int))=(c.base:Int)+(s.i:Int):=wrap_i64 (by omega) (by omega);obtain⟨e7,e8⟩:=Kg s;have e9:(s'.boxes.map af).length=s'.boxes.length:=by simp
 have e10:=aN s'.gone;simp only[NB,bq,bF] at h1;obtain⟨R,u5,u8,N,base⟩:=c;obtain⟨i,st,w,v1,v2,ic,q,n⟩:=s;simp only at*;simp only[FM,rI,Dr,Ds,Dt,Dq,B3];simp only[ai,aW,boxes,ints] at h3 ⊢;have m1:(st.boxes.map af).take st.boxes.length=st.boxes.map af:=aa (by omega);have m2:(az st.gone).take st.gone.length=az st.gone:=aa (by omega);generalize s'.boxes.map af=rb' at*;generalize az s'.gone=rg' at*;generalize st.boxes.map af=rb at*;generalize az st.gone=rg at*;by_cases hb0:box=0
 ·subst hb0;cases w
  ·simp only[au,if_false];simp (maxSteps:=9^9) [bc.br,ab,setAt,h1,h3,e4,e9,e10]
  ·simp only[if_true];simp (maxSteps:=9^9) [bc.br,ab,setAt,h1,h3,e4,e7,e8,e9,e10,m1,m2]
 ·have hx:x=0:=by omega
  subst hx;cases w
  ·simp only[au,if_false];simp (maxSteps:=9^9) [bc.br,ab,setAt,h1,h3,hb0,e4,e9,e10]
  ·simp only[if_true];simp (maxSteps:=9^9) [bc.br,ab,setAt,h1,h3,hb0,e4,e7,e8,e9,e10,m1,m2]
theorem Ic(c:yV)(k:Nat)(s:yG)(box gid x:Int)(ic1:Nat)(q1:Int)(s':aT)(ok:Bool)(hb:¬box=0)(hx:11≤x)
  (h1:run M 175 [.c (.ptr 0 0 0 0),.c (I 3)] [iG c.R s.ic s.q]=some (.c (.bool true),[iG c.R ic1 q1]))
  (h3:run M 283 [.a (ai s.s),.c (I box)] []=some (.lN [.a (aW s'),.c (.bool ok)],[])):
  FM M c k s box gid x s' ic1 q1:=by
 have x0:¬x=0:=by omega
 have x6:¬x<6:=by omega
 have x9:¬x<9:=by omega
 have y9:¬x=9:=by omega
 have y10:¬x=10:=by omega
 obtain⟨e7,e8⟩:=Kg s;have e9:(s'.boxes.map af).length=s'.boxes.length:=by simp
 have e10:=aN s'.gone;obtain⟨R,u5,u8,N,base⟩:=c;obtain⟨i,st,w,v1,v2,ic,q,n⟩:=s;simp only at*;simp only[FM,rI,Dr,Ds,Dt,Dq,B3];simp only[ai,aW,boxes,ints] at h3 ⊢;have m1:(st.boxes.map af).take st.boxes.length=st.boxes.map af:=aa (by omega);have m2:(az st.gone).take st.gone.length=az st.gone:=aa (by omega);generalize s'.boxes.map af=rb' at*;generalize az s'.gone=rg' at*;generalize st.boxes.map af=rb at*;generalize az st.gone=rg at*;cases w
 ·simp only[au,if_false];simp (maxSteps:=9^9) [bc.br,ab,setAt,h1,h3,hb,x0,x6,x9,y9,y10,e9,e10]
 ·simp only[if_true];simp (maxSteps:=9^9) [bc.br,ab,setAt,h1,h3,hb,x0,x6,x9,y9,y10,e7,e8,e9,e10,m1,m2]
theorem H9(c:yV)(k:Nat)(s:yG)(box gid x:Int)(ic1:Nat)(q1:Int)(hb:¬box=0)(hx:11≤x)
  (h1:run M 175 [.c (.ptr 0 0 0 0),.c (I 3)] [iG c.R s.ic s.q]=some (.c (.bool false),[iG c.R ic1 q1])):
  ∃n',ct (run M) k bc.br (rI c s (B3 box gid x))=some (.normal,rI c ⟨s.i,s.s,s.w,s.v1,s.v2,ic1,q1,n'⟩ [(10,.c (I box)),(51,.c (.bool false))]):=by
 have x0:¬x=0:=by omega
 have x6:¬x<6:=by omega
 have x9:¬x<9:=by omega
 have y9:¬x=9:=by omega
 have y10:¬x=10:=by omega
 obtain⟨R,u5,u8,N,base⟩:=c;obtain⟨i,st,w,v1,v2,ic,q,n⟩:=s;simp only at*;simp only[rI,Dr,Ds,Dt,Dq,B3];simp only[ai,boxes,ints];generalize st.boxes.map af=rb at*;generalize az st.gone=rg at*;cases w
 ·simp only[au,if_false];simp (maxSteps:=9^9) [bc.br,ab,h1,hb,x0,x6,x9,y9,y10]
 ·simp only[if_true];simp (maxSteps:=9^9) [bc.br,ab,h1,hb,x0,x6,x9,y9,y10]
abbrev Ih:List (Nat×V):=[(10,.c (I 0)),(11,.c (I 0))]
theorem KD(c:yV)(k:Nat)(s:yG)(x:Int)(ic1:Nat)(q1:Int)(hbx:s.s.boxes=[])
  (h1:run M 125 [.c (.ptr 0 0 0 0),.c (I 12)] [iG c.R s.ic s.q]=some (.c (I x),[iG c.R ic1 q1]))
  (X:Nat→St) (hX:∀n,ct (run M) k bc.br (rI c ⟨s.i,s.s,s.w,s.v1,s.v2,ic1,q1,n⟩ (B3 0 0 x))=some (.normal,X n)):
  ∃n,ct (run M) k bc.hd (rI c s Ih)=some (.normal,X n):=by
 obtain⟨R,u5,u8,N,base⟩:=c;obtain⟨i,st,w,v1,v2,ic,q,n⟩:=s;simp only at*;simp only[rI,Dr,Ds,Dt,Dq,B3,Ih] at hX ⊢;simp only[ai,boxes,ints,hbx,bF,dM] at hX ⊢;generalize az st.gone=rg at*;cases w
 ·simp only[au,if_false] at hX ⊢;simp (maxSteps:=9^9) [bc.hd,ab,h1,hX];exact⟨_,rfl⟩
 ·simp only[if_true] at hX ⊢;simp (maxSteps:=9^9) [bc.hd,ab,h1,hX];exact⟨_,rfl⟩
theorem KC(c:yV)(k:Nat)(s:yG)(x:Int)(j ic0 ic1:Nat)(q0 q1:Int)(hj:j<s.s.boxes.length)(hm:s.s.boxes[j].ae=[])
  (h0:run M 125 [.c (.ptr 0 0 0 0),.c (I s.s.boxes.length)] [iG c.R s.ic s.q]=some (.c (I j),[iG c.R ic0 q0]))
  (h1:run M 125 [.c (.ptr 0 0 0 0),.c (I 12)] [iG c.R ic0 q0]=some (.c (I x),[iG c.R ic1 q1]))
  (X:Nat→St) (hX:∀n,ct (run M) k bc.br (rI c ⟨s.i,s.s,s.w,s.v1,s.v2,ic1,q1,n⟩ (B3 s.s.boxes[j].gid 0 x))=some (.normal,X n)):
  ∃n,ct (run M) k bc.hd (rI c s Ih)=some (.normal,X n):=by
 obtain⟨e7,e8⟩:=Kg s;obtain⟨R,u5,u8,N,base⟩:=c;obtain⟨i,st,w,v1,v2,ic,q,n⟩:=s;simp only at*;have hj':j<st.boxes.length:=hj;have a1:∀hh,(st.boxes.map af)[j]'hh=af st.boxes[j]:=by intro hh;simp
 have m1:(st.boxes.map af).take st.boxes.length=st.boxes.map af:=aa (by omega);have hl:0<st.boxes.length:=by omega
 simp only[rI,Dr,Ds,Dt,Dq,B3,Ih] at hX ⊢;simp only[af,ae,ints,hm,bF] at a1;simp only[ai,boxes,ints] at hX ⊢;generalize st.boxes[j]=b at*;generalize st.boxes.map af=rb at*;generalize az st.gone=rg at*;generalize az b.gone=rbg at*;generalize st.boxes.length=nb at*;cases w
 ·simp only[au,if_false] at hX ⊢;simp (maxSteps:=9^9) [bc.hd,ab,setAt,h0,h1,hX,hl,hj,e7,a1];exact⟨_,rfl⟩
 ·simp only[if_true] at hX ⊢;simp (maxSteps:=9^9) [bc.hd,ab,setAt,h0,h1,hX,hl,hj,e7,a1];exact⟨_,rfl⟩
theorem KB(c:yV)(k:Nat)(s:yG)(x:Int)(j l ic0 ic1 ic2:Nat)(q0 q1 q2:Int)(hj:j<s.s.boxes.length)(hl:l<s.s.boxes[j].ae.length)
  (h0:run M 125 [.c (.ptr 0 0 0 0),.c (I s.s.boxes.length)] [iG c.R s.ic s.q]=some (.c (I j),[iG c.R ic0 q0]))
  (h2:run M 125 [.c (.ptr 0 0 0 0),.c (I s.s.boxes[j].ae.length)] [iG c.R ic0 q0]=some (.c (I l),[iG c.R ic2 q2]))
  (h1:run M 125 [.c (.ptr 0 0 0 0),.c (I 12)] [iG c.R ic2 q2]=some (.c (I x),[iG c.R ic1 q1]))
  (X:Nat→St) (hX:∀n,ct (run M) k bc.br (rI c ⟨s.i,s.s,s.w,s.v1,s.v2,ic1,q1,n⟩ (B3 s.s.boxes[j].gid (s.s.boxes[j].ae[l]).gid x))=some (.normal,X n)):
  ∃n,ct (run M) k bc.hd (rI c s Ih)=some (.normal,X n):=by
 obtain⟨e7,e8⟩:=Kg s;obtain⟨R,u5,u8,N,base⟩:=c;obtain⟨i,st,w,v1,v2,ic,q,n⟩:=s;simp only at*;have hj':j<st.boxes.length:=hj;have hl':l<st.boxes[j].ae.length:=hl;have a1:∀hh,(st.boxes.map af)[j]'hh=af st.boxes[j]:=by intro hh;simp
 have a2:∀hh:l<(st.boxes[j].ae.map ah).length,(st.boxes[j].ae.map ah)[l]'hh=ah (st.boxes[j].ae[l]'hl'):=by intro hh;simp
 have e9:(st.boxes[j].ae.map ah).length=st.boxes[j].ae.length:=by simp
 have m1:(st.boxes.map af).take st.boxes.length=st.boxes.map af:=aa (by omega);have m2:(st.boxes[j].ae.map ah).take st.boxes[j].ae.length=st.boxes[j].ae.map ah:=aa (by omega);have hl0:0<st.boxes.length:=by omega
 have hl1:0<st.boxes[j].ae.length:=by omega
 simp only[rI,Dr,Ds,Dt,Dq,B3,Ih] at hX ⊢;simp only[af,ae,ints] at a1;simp only[ah] at a2;simp only[ai,boxes,ints] at hX ⊢;generalize st.boxes[j].ae[l]=m at*;generalize st.boxes[j].ae.map ah=rm at*;generalize st.boxes[j].ae.length=nm at*;generalize st.boxes[j]=b at*;generalize st.boxes.map af=rb at*;generalize az st.gone=rg at*;generalize az b.gone=rbg at*;generalize st.boxes.length=nb at*;cases w
 ·simp only[au,if_false] at hX ⊢;simp (maxSteps:=9^9) [bc.hd,ab,setAt,h0,h1,h2,hX,hl,hl0,hl1,hj,e7,e9,a1,a2];exact⟨_,rfl⟩
 ·simp only[if_true] at hX ⊢;simp (maxSteps:=9^9) [bc.hd,ab,setAt,h0,h1,h2,hX,hl,hl0,hl1,hj,e7,e9,a1,a2];exact⟨_,rfl⟩
abbrev Nq(e:Bool)(g:Int):List (Nat×V):=if e=true then [(10,.c (I g)),(51,.c (.bool false))] else []
theorem Mp(c:yV)(k:Nat)(s:yG)(st':aT)(w':Bool)(ic':Nat)(q':Int)(e:Bool)(g:Int)(hi:s.i<c.N)(hN:c.N≤1000)
  (hX:∀n,∃y,ct (run M) k bc.hd (rI c {s with n:=n} Ih)=some (.normal,Mq c s.i st' w' ic' q' (Nq e g) y)):
  ∃y,ct (run M) k bc.l0 (rI c s [])=some (.normal,Mq c (s.i+1) st' w' ic' q' [] y):=by
 obtain⟨X,hX⟩:=Classical.skolem.1 hX;obtain⟨R,u5,u8,N,base⟩:=c;obtain⟨i,st,w,v1,v2,ic,q,n⟩:=s;simp only at*;have e5:=cA (i:=i) (by omega);simp only[Mq,rI,Dr,Ds,Dt,Dq,Ih,Nq] at hX ⊢;simp only[ai,boxes,ints] at hX ⊢;generalize st.boxes.map af=rb at*;generalize az st.gone=rg at*;generalize st'.boxes.map af=rb' at*;generalize az st'.gone=rg' at*;cases w<;>cases w'<;>cases e<;>simp only[au,if_false,if_true] at hX ⊢<;>simp (maxSteps:=9^9) [bc.l0,hX,hi,e5]<;>exact⟨_,_,_,⟨⟨rfl,rfl⟩,rfl,rfl⟩,rfl⟩
theorem KE(c:yV)(k:Nat)(s:yG)(hi:¬s.i<c.N):
  ∃n',ct (run M) k bc.l0 (rI c s [])=some (.exit 0,rI c {s with n:=n'} [(16,.c (.bool false))]):=by
 obtain⟨R,u5,u8,N,base⟩:=c;obtain⟨i,st,w,v1,v2,ic,q,n⟩:=s;simp only at*;simp only[rI,Dr,Ds,Dt,Dq];simp only[ai,boxes,ints];generalize st.boxes.map af=rb at*;generalize az st.gone=rg at*;cases w<;>simp only[au,if_false,if_true]<;>simp (maxSteps:=9^9) [bc.l0,hi]
end Mx
namespace Mx
open Go
def OV(b:bA)(g:Int):Prop:=b.gid=g∨g∈b.gone∨∃m∈b.ae,m.gid=g
def Kn(s:aT)(g:Int):Prop:=(∃b∈s.boxes,OV b g)∨g∈s.gone
theorem BI{l:List bA}{g:Int}:(mc l g).isSome=true↔∃b∈l,b.gid=g:=by
 unfold mc;rw[←rH,List.any_eq_true];simp
theorem Ag{l:List bp}{g:Int}:(gg l g).isSome=true↔∃m∈l,m.gid=g:=by
 cases q:gg l g with
 |none=>simpa using pB.1 q
 |some k=>obtain⟨h1,h2,_⟩:=nP q;simpa using⟨_,aq h1,h2⟩
theorem EV{s:aT}{g:Int}:oP s g=true↔Kn s g:=by
 unfold oP Kn;simp only[Bool.or_eq_true,BI,decide_eq_true_eq,List.any_eq_true,oA,Ag,OV];constructor
 ·rintro ((⟨b,h1,h2⟩|h)|⟨b,h1,h2|h2⟩)
  ·exact .inl ⟨b,h1,.inl h2⟩
  ·exact .inr h
  ·exact .inl ⟨b,h1,.inr (.inr h2)⟩
  ·exact .inl ⟨b,h1,.inr (.inl h2)⟩
 ·rintro (⟨b,h1,h2|h2|h2⟩|h)
  ·exact .inl (.inl ⟨b,h1,h2⟩)
  ·exact .inr ⟨b,h1,.inr h2⟩
  ·exact .inr ⟨b,h1,.inl h2⟩
  ·exact .inl (.inr h)
def xE:List (List UInt8):=[[105,110,98,111,120],[119,111,114,107],[110,101,119],[111,116,104,101,114],[111,108,100]]
structure wo (b:bA):Prop where
 name:b.name∈xE
 kn:∀g,OV b g→100≤g∧g≤999
structure Used (n:Nat) (s:aT):Prop where
 ok:a8 s=true
 time:s.time≤n
 gone:s.gone.length≤n
 box:∀b∈s.boxes,wo b
 kn:∀g∈s.gone,100≤g∧g≤999
theorem Used.all{n:Nat}{s:aT}(h:Used n s){g:Int}(k:Kn s g):100≤g∧g≤999:=by
 rcases k with⟨b,h1,h2⟩|k
 ·exact(h.box b h1).kn g h2
 ·exact h.kn g k
theorem Used.mono{n m:Nat}{s:aT}(h:Used n s)(hm:n≤m):Used m s:=⟨h.ok,by have:=h.time;omega,by have:=h.gone;omega,h.box,h.kn⟩
theorem wS{w:Int}(h1:1≤w)(h2:w≤2):Used 0 ⟨w,0,[],[]⟩:=
 ⟨iI.2 ⟨⟨h1,h2⟩,by simp,by simp,List.Pairwise.nil,by simp,by simp,by simp,List.Pairwise.nil,List.Pairwise.nil,List.nodup_nil⟩,by simp,by simp,by simp,by simp⟩
theorem qD{n:Nat}{s:aT}(h:Used n s)(i:Nat){b:bA}(hb:wo b):Used (n+1) (stamped s i b).1:=by
 have hok:=qH h.ok i b;unfold stamped at hok ⊢;split
 ·rename_i c;rw[if_pos c] at hok;refine⟨hok,by have:=h.time;simp only[gW];omega,by have:=h.gone;simp only[gW];omega,fun x hx=> ?_,h.kn⟩;rcases List.mem_or_eq_of_mem_set hx with q|q
  ·exact h.box x q
  ·rw[q];exact hb
 ·exact h.mono (by omega)
theorem zP{n:Nat}{s:aT}(h:Used n s)(g:Int)(f:Nat→bA→aT×Bool)(hf:∀i (hi:i<s.boxes.length),s.boxes[i].gid=g→Used (n+1) (f i s.boxes[i]).1):Used (n+1) (at_ s g f).1:=by
 cases c:mc s.boxes g with
 |none=>rw[mu c];exact h.mono (by omega)
 |some i=>
  obtain⟨hi,hb⟩:=jk c;rw[mr c hi];exact hf i hi (lu hb).2
theorem Eo{b:bA}(h:wo b){m:Int}(hm:100≤m∧m≤999)(f:Int)(x:List UInt8)(t w:Int):wo (lv b m f x t w).1:=by
 unfold lv;split
 ·refine⟨h.name,fun g k=> ?_⟩;rcases k with k|k|⟨y,hy,k⟩
  ·exact h.kn g (.inl k)
  ·exact h.kn g (.inr (.inl k))
  ·rcases List.mem_append.1 hy with q|q
   ·exact h.kn g (.inr (.inr ⟨y,q,k⟩))
   ·simp only[gz] at q;subst q;rw[←k];exact hm
 ·exact h
theorem B_{b:bA}(h:wo b)(m n t w:Int):wo (j9 b m n t w).1:=by
 unfold j9;split
 ·exact h
 ·rename_i k hk;split
  ·exact h
  ·rename_i y hy;split
   ·refine⟨h.name,fun g k=> ?_⟩;rcases k with k|k|⟨z,hz,k⟩
    ·exact h.kn g (.inl k)
    ·exact h.kn g (.inr (.inl k))
    ·rcases List.mem_or_eq_of_mem_set hz with q|q
     ·exact h.kn g (.inr (.inr ⟨z,q,k⟩))
     ·subst q;exact h.kn g (.inr (.inr ⟨y,ji hy,k⟩))
   ·exact h
theorem B9{b:bA}(h:wo b)(m:Int):wo (kL b m).1:=by
 unfold kL;cases q:gg b.ae m with
 |none=>exact h
 |some k=>
  obtain⟨h1,h2,_⟩:=nP q;simp only;split
  ·refine⟨h.name,fun g z=> ?_⟩;rcases z with z|z|⟨y,hy,z⟩
   ·exact h.kn g (.inl z)
   ·rcases oS.1 z with e|e
    ·exact h.kn g (.inr (.inr ⟨_,aq h1,by rw[e];exact h2⟩))
    ·exact h.kn g (.inr (.inl e))
   ·exact h.kn g (.inr (.inr ⟨y,(nH b.ae k).subset hy,z⟩))
  ·exact h
theorem FR{n:Nat}{s:aT}(h:Used n s)(g:Int){m:Int}(hm:100≤m∧m≤999)(f:Int)(x:List UInt8):Used (n+1) (mP s g m f x).1:=by
 unfold mP;split
 ·refine zP h _ _ fun i hi _=> ?_
  split
  ·exact qD h _ (Eo (h.box _ (aq hi)) hm _ _ _ _)
  ·exact h.mono (by omega)
 ·exact h.mono (by omega)
theorem Ei{n:Nat}{s:aT}(h:Used n s)(g m f:Int):Used (n+1) (lD s g m f).1:=by
 unfold lD;rw[if_pos h.ok];refine zP h _ _ fun i hi _=> ?_
 split
 ·exact qD h _ (B_ (h.box _ (aq hi)) _ _ _ _)
 ·exact h.mono (by omega)
theorem El{n:Nat}{s:aT}(h:Used n s)(g m:Int):Used (n+1) (lK s g m).1:=by
 have hok:=r_ h.ok g m;unfold lK at hok ⊢;rw[if_pos h.ok] at hok ⊢;cases c:mc s.boxes g with
 |none=>rw[mu c];exact h.mono (by omega)
 |some i=>
  obtain⟨hi,hb⟩:=jk c;rw[mr c hi] at hok ⊢;split
  ·rename_i z;rw[if_pos z] at hok;refine⟨hok,by have:=h.time;simp only;omega,by have:=h.gone;simp only;omega,fun x hx=> ?_,h.kn⟩;rcases List.mem_or_eq_of_mem_set hx with q|q
   ·exact h.box x q
   ·rw[q];exact B9 (h.box _ (aq hi)) m
  ·exact h.mono (by omega)
theorem Eh{n:Nat}{s:aT}(h:Used n s)(g:Int){nm:List UInt8}(hn:nm∈xE):Used (n+1) (kN s g nm).1:=by
 unfold kN;split
 ·exact zP h _ _ fun i hi _=>qD h _ ⟨hn,fun g k=>(h.box _ (aq hi)).kn g k⟩
 ·exact h.mono (by omega)
theorem Ej{n:Nat}{s:aT}(h:Used n s){g:Int}(hg:100≤g∧g≤999){nm:List UInt8}(hn:nm∈xE):Used (n+1) (mo s g nm).1:=by
 have hok:=tz h.ok g nm;unfold mo at hok ⊢;split
 ·rename_i c;rw[if_pos c] at hok;split
  ·rename_i z;rw[if_pos z] at hok;refine⟨hok,by have:=h.time;simp only[gC];omega,by have:=h.gone;simp only[gC];omega,fun x hx=> ?_,h.kn⟩;simp only[gC,iC,fN,gz] at hx;rcases hx with (q|q)|q
   ·exact h.box x q.1
   ·rw[q];refine⟨hn,fun g k=> ?_⟩;rcases k with k|k|⟨m,hm,k⟩
    ·rw[←k];exact hg
    ·simp[kE] at k
    ·simp[kE] at hm
   ·exact h.box x q.1
  ·exact h.mono (by omega)
 ·exact h.mono (by omega)
theorem Ek{n:Nat}{s:aT}(h:Used n s){g:Int}(hg:100≤g∧g≤999):Used (n+1) (mQ s g).1:=by
 have hok:=tI h.ok (g:=g) ⟨by omega,by omega⟩;unfold mQ at hok ⊢;split
 ·rename_i c;rw[if_pos c] at hok;cases q:mc s.boxes g with
  |none=>rw[mu q];exact h.mono (by omega)
  |some i=>
   obtain⟨hi,hbi⟩:=jk q;rw[mr q hi] at hok ⊢;have:=wM s.gone g;refine⟨hok,by have:=h.time;simp only;omega,by have:=h.gone;simp only;omega,fun x hx=>h.box x ((nH s.boxes i).subset hx),fun x hx=> ?_⟩;rcases oS.1 hx with e|e
   ·rw[e];exact hg
   ·exact h.kn x e
 ·exact h.mono (by omega)
theorem lj{s:aT}(h:a8 s=true):mN s:=by
 have G:=iI.1 h;have H:=eT h;exact⟨⟨by have:=G.len;omega,by have:=G.nV;omega,fun b hb=>(H.boxes.lY b hb).u_,by have:=oC h;omega⟩,by have:=G.time;omega,by have:=G.time;omega⟩
structure rK (p:Bool) (n:Nat) (s:aT):Prop where
 ok:a8 s=true
 use:p=true→Used n s
theorem rK.mono{p:Bool}{n m:Nat}{s:aT}(h:rK p n s)(hm:n≤m):rK p m s:=⟨h.ok,fun e=>(h.use e).mono hm⟩
theorem Em{w:Int}(h1:1≤w)(h2:w≤2)(p:Bool):rK p 0 ⟨w,0,[],[]⟩:=⟨(wS h1 h2).ok,fun _=>wS h1 h2⟩
theorem rK.box{p:Bool}{n:Nat}{s:aT}(h:rK p n s){b:bA}(hb:b∈s.boxes):(1≤b.gid∧b.gid≤9999)∧(p=true→100≤b.gid∧b.gid≤999):=
 ⟨((iI.1 h.ok).box b hb).1.gid,fun e=>((h.use e).box b hb).kn _ (.inl rfl)⟩
end Mx
namespace Mx
open Go
variable {M:Nat→Option Body}
structure OT (M:Nat→Option Body):Prop where
 below:bu.k M
 text:gF.k M
 once:iM.k M
 pick:eG.k M
 make:b4.k M
 put:dI.k M
 mark:dA.k M
 drop:dB.k M
 name:cL.k M
 Ox:dK.k M
theorem zO(K:OT M)(c:yV)(hR:Bytes c.R)(k:Nat)(p:Bool)(m:Nat)(st:aT)(hs:rK p m st)(i ic:Nat)(q:Int)(hic:ic≤c.R.length)(hb1:100≤c.base)(hb2:c.base+i≤999)(w:Bool)(v1 v2:Nat)(box gid:Int)(x:Nat)
  (hbox:box=0∨(1≤box∧box≤9999)∧(p=true→100≤box∧box≤999)):
  ∃(e:Bool) (st':aT) (w':Bool) (ic':Nat) (q':Int),rK p (m+1) st'∧ic'≤c.R.length∧(box=0∨w=true→w'=true)∧
   ∀n,∃y,ct (run M) k bc.br (rI c ⟨i,st,w,v1,v2,ic,q,n⟩ (B3 box gid x))=some (.normal,Mq c i st' w' ic' q' (Nq e box) y):=by
 have hg:100≤(c.base:Int)+(i:Int)∧(c.base:Int)+(i:Int)≤999:=⟨by omega,by omega⟩;have n3:∀s∈NB,s∈xE∧s.length≤12:=by decide
 have n4:∀s∈NA,s∈xE∧s.length≤12:=by decide
 by_cases c0:box=0∨x=0
 ·obtain⟨nm,ic1,q1,hnm,hc1,h1⟩:=eG.al K.pick hR ic q hic NB (by decide) (by decide);have h3:=b4.al K.make st (lj hs.ok) ((c.base:Int)+(i:Int)) nm (by have:=(n3 nm hnm).2;omega);refine⟨false,_,true,ic1,q1,⟨tz hs.ok _ _,fun z=>Ej (hs.use z) hg (n3 nm hnm).1⟩,hc1,fun _=>rfl,fun n=> ?_⟩;obtain⟨v1',v2',n',h⟩:=Ib c k ⟨i,st,w,v1,v2,ic,q,n⟩ box gid x ic1 _ q1 _ _ (by omega) (by omega) (by simp only;omega) h1 h3;exact⟨(v1',v2',n'),h⟩
 have d0:¬box=0:=fun e=>c0 (.inl e)
 have d1:¬(x:Int)=0:=fun e=>c0 (.inr (by omega))
 by_cases c6:x<6
 ·obtain⟨f,ic1,q1,hf,hc1,h1⟩:=bu.al K.below hR ic q hic 8 (by omega) (by omega);simp only[bO] at h1;obtain⟨tx,ic2,q2,htx,hc2,h2⟩:=gF.al K.text hR ic1 q1 hc1;have h3:=dI.al K.put st (lj hs.ok) box ((c.base:Int)+(i:Int)) f tx;refine⟨false,_,true,ic2,q2,⟨xy hs.ok _ _ _ _,fun z=>FR (hs.use z) box hg f tx⟩,hc2,fun _=>rfl,fun n=> ?_⟩;obtain⟨v1',v2',n',h⟩:=KA c k ⟨i,st,w,v1,v2,ic,q,n⟩ box gid x f ic1 ic2 _ q1 q2 _ _ d0 d1 (by omega) (by omega) (by simp only;omega) h1 h2 h3;exact⟨(v1',v2',n'),h⟩
 by_cases c9:x<9
 ·obtain⟨f,ic1,q1,hf,hc1,h1⟩:=bu.al K.below hR ic q hic 8 (by omega) (by omega);simp only[bO] at h1;have h3:=dA.al K.mark st (lj hs.ok) box gid f;refine⟨false,_,true,ic1,q1,⟨vO hs.ok _ _ _,fun z=>Ei (hs.use z) box gid f⟩,hc1,fun _=>rfl,fun n=> ?_⟩;obtain⟨v1',v2',n',h⟩:=Ia c k ⟨i,st,w,v1,v2,ic,q,n⟩ box gid x f ic1 q1 _ _ d0 d1 (by omega) (by omega) h1 h3;exact⟨(v1',v2',n'),h⟩
 by_cases c10:x=9
 ·have h3:=dB.al K.drop st (lj hs.ok) box gid;refine⟨false,_,true,ic,q,⟨r_ hs.ok _ _,fun z=>El (hs.use z) box gid⟩,hic,fun _=>rfl,fun n=> ?_⟩;obtain⟨v1',v2',n',h⟩:=Ig c k ⟨i,st,w,v1,v2,ic,q,n⟩ box gid x _ _ d0 (by omega) h3;exact⟨(v1',v2',n'),h⟩
 by_cases c11:x=10
 ·obtain⟨nm,ic1,q1,hnm,hc1,h1⟩:=eG.al K.pick hR ic q hic NA (by decide) (by decide);have h3:=cL.al K.name st (lj hs.ok) box nm (by have:=(n4 nm hnm).2;omega);refine⟨false,_,true,ic1,q1,⟨tZ hs.ok _ _,fun z=>Eh (hs.use z) box (n4 nm hnm).1⟩,hc1,fun _=>rfl,fun n=> ?_⟩;obtain⟨v1',v2',n',h⟩:=H_ c k ⟨i,st,w,v1,v2,ic,q,n⟩ box gid x ic1 _ q1 _ _ d0 (by omega) h1 h3;exact⟨(v1',v2',n'),h⟩
 obtain⟨z,ic1,q1,hc1,h1⟩:=iM.al K.once hR ic q hic 3 (by omega) (by omega);simp only[bO] at h1;cases z
 ·refine⟨true,st,w,ic1,q1,hs.mono (by omega),hc1,fun h=>h.resolve_left d0,fun n=> ?_⟩;obtain⟨n',h⟩:=H9 c k ⟨i,st,w,v1,v2,ic,q,n⟩ box gid x ic1 q1 d0 (by omega) h1;exact⟨(v1,v2,n'),h⟩
 ·have h3:=dK.al K.Ox st (lj hs.ok) box;refine⟨false,_,true,ic1,q1,⟨tI hs.ok (hbox.resolve_left d0).1,fun z=>Ek (hs.use z) ((hbox.resolve_left d0).2 z)⟩,hc1,fun _=>rfl,fun n=> ?_⟩;obtain⟨v1',v2',n',h⟩:=Ic c k ⟨i,st,w,v1,v2,ic,q,n⟩ box gid x ic1 q1 _ _ d0 (by omega) h1 h3;exact⟨(v1',v2',n'),h⟩
structure LK (c:yV) (p:Bool) (m:Nat) (s0:aT) (s:yG):Prop where
 i:s.i≤c.N
 use:rK p (m+s.i) s.s
 ic:s.ic≤c.R.length
 w:s0.boxes≠[]∨(s.i=0∧s.s=s0)∨s.w=true
theorem FQ(K:OT M)(c:yV)(hR:Bytes c.R)(k:Nat)(p:Bool)(m:Nat)(s0:aT)(hb1:100≤c.base)(hb2:c.base+c.N≤1000)(s:yG)(hs:LK c p m s0 s)(hi:s.i<c.N):
  ∃s',ct (run M) k bc.l0 (rI c s [])=some (.normal,rI c s' [])∧LK c p m s0 s'∧s'.i=s.i+1:=by
 have fin:∀(box:Int) (e:Bool) (st':aT) (w':Bool) (ic':Nat) (q':Int),rK p (m+s.i+1) st'→ic'≤c.R.length→(s0.boxes≠[]∨w'=true)→
   (∀n,∃y,ct (run M) k bc.hd (rI c {s with n:=n} Ih)=some (.normal,Mq c s.i st' w' ic' q' (Nq e box) y))→
   ∃s',ct (run M) k bc.l0 (rI c s [])=some (.normal,rI c s' [])∧LK c p m s0 s'∧s'.i=s.i+1:=by
  intro box e st' w' ic' q' hu hc hw hX;obtain⟨y,hy⟩:=Mp c k s st' w' ic' q' e box hi (by omega) hX;exact⟨⟨s.i+1,st',w',y.1,y.2.1,ic',q',y.2.2⟩,hy,⟨by simp only;omega,hu,hc,hw.imp_right .inr⟩,rfl⟩
 by_cases hbx:s.s.boxes=[]
 ·obtain⟨x,ic1,q1,hx,hc1,h1⟩:=bu.al K.below hR s.ic s.q hs.ic 12 (by omega) (by omega);simp only[bO] at h1;obtain⟨e,st',w',ic',q',hu,hc',hw,hd⟩:=zO K c hR k p (m+s.i) s.s hs.use s.i ic1 q1 hc1 hb1 (by omega) s.w s.v1 s.v2 0 0 x (.inl rfl);obtain⟨Y,hY⟩:=Classical.skolem.1 hd;exact fin 0 e st' w' ic' q' hu hc' (.inr (hw (.inl rfl))) fun n=>by
   obtain⟨n1,h⟩:=KD c k {s with n:=n} x ic1 q1 hbx h1 _ hY;exact⟨_,h⟩
 have hne:s0.boxes≠[]∨s.w=true:=by
  rcases hs.w with h|⟨_,h⟩|h
  ·exact .inl h
  ·left;rw[←h];exact hbx
  ·exact .inr h
 have hl:0<s.s.boxes.length:=List.length_pos_iff.2 hbx;have G:=iI.1 hs.use.ok;obtain⟨j,ic0,q0,hj,hc0,h0⟩:=bu.al K.below hR s.ic s.q hs.ic s.s.boxes.length hl (by have:=G.len;omega);have hbox:=hs.use.box (aq hj);by_cases hml:s.s.boxes[j].ae=[]
 ·obtain⟨x,ic1,q1,hx,hc1,h1⟩:=bu.al K.below hR ic0 q0 hc0 12 (by omega) (by omega);simp only[bO] at h1;obtain⟨e,st',w',ic',q',hu,hc',hw,hd⟩:=zO K c hR k p (m+s.i) s.s hs.use s.i ic1 q1 hc1 hb1 (by omega) s.w s.v1 s.v2 s.s.boxes[j].gid 0 x (.inr hbox);obtain⟨Y,hY⟩:=Classical.skolem.1 hd;exact fin _ e st' w' ic' q' hu hc' (hne.imp_right fun h=>hw (.inr h)) fun n=>by
   obtain⟨n1,h⟩:=KC c k {s with n:=n} x j ic0 ic1 q0 q1 hj hml h0 h1 _ hY;exact⟨_,h⟩
 ·have hl2:0<s.s.boxes[j].ae.length:=List.length_pos_iff.2 hml;have GB:=(G.box _ (aq hj)).1;obtain⟨l,ic2,q2,hl,hc2,h2⟩:=bu.al K.below hR ic0 q0 hc0 s.s.boxes[j].ae.length hl2 (by have:=GB.len;omega);obtain⟨x,ic1,q1,hx,hc1,h1⟩:=bu.al K.below hR ic2 q2 hc2 12 (by omega) (by omega);simp only[bO] at h1;obtain⟨e,st',w',ic',q',hu,hc',hw,hd⟩:=zO K c hR k p (m+s.i) s.s hs.use s.i ic1 q1 hc1 hb1 (by omega) s.w s.v1 s.v2 s.s.boxes[j].gid (s.s.boxes[j].ae[l]).gid x (.inr hbox);obtain⟨Y,hY⟩:=Classical.skolem.1 hd;exact fin _ e st' w' ic' q' hu hc' (hne.imp_right fun h=>hw (.inr h)) fun n=>by
   obtain⟨n1,h⟩:=KB c k {s with n:=n} x j l ic0 ic1 ic2 q0 q1 q2 hj hl h0 h2 h1 _ hY;exact⟨_,h⟩
theorem Ie(K:OT M)(c:yV)(hR:Bytes c.R)(k:Nat)(p:Bool)(m:Nat)(s0:aT)(hb1:100≤c.base)(hb2:c.base+c.N≤1000)(s:yG)(hs:LK c p m s0 s)(hk:c.N<k):
  ∃s',eZ (ct (run M) k bc.l0) k (rI c s [])=some (.exit 0,rI c s' [(16,.c (.bool false))])∧LK c p m s0 s'∧s'.i=c.N:=by
 obtain⟨r,hr,s',rfl,hI⟩:=kW (f:=ct (run M) k bc.l0) (fun s=>rI c s []) (LK c p m s0) (fun s=>c.N-s.i) (fun r=>∃s',r=(.exit 0,rI c s' [(16,.c (.bool false))])∧LK c p m s0 s'∧s'.i=c.N)
  (fun s hs=>by
   by_cases hi:s.i<c.N
   ·left;obtain⟨s',h1,h2,h3⟩:=FQ K c hR k p m s0 hb1 hb2 s hs hi;exact⟨s',h1,h2,by omega⟩
   ·right;obtain⟨n',h⟩:=KE (M:=M) c k s hi;have:=hs.i;exact⟨_,h,by simp,_,rfl,⟨hs.i,hs.use,hs.ic,hs.w⟩,by simp only;omega⟩) k s hs (by omega)
 exact⟨s',hr,hI⟩
abbrev vg(w:Bool)(s:aT):List T:=[I s.df,I s.time,.sl w 7 (s.boxes.map af),.sl w 1 (az s.gone)]
theorem bc.al(h:bc.k M){R:List (List T)}(hR:Bytes R)(i:Nat)(q:Int)(hi:i≤R.length)(p:Bool)(m:Nat)(s:aT)(hs:rK p m s)(N base:Nat)(h1:100≤base)(h2:base+N≤1000):
  ∃(s':aT) (w:Bool) (i':Nat) (q':Int),rK p (m+N) s'∧(s.boxes=[]→0<N→w=true)∧i'≤R.length∧
   run M 244 [.c (.ptr 0 0 0 0),.a (ai s),.c (I N),.c (I base)] [iG R i q]=some (.a (vg w s'),[iG R i' q']):=by
 obtain⟨h0,kb,kt,ko,kp,km,kpu,kma,kdm,kn,kdb⟩:=h;obtain⟨⟨i',s',w,v1,v2,ic,q',n⟩,hr,hI,hi'⟩:=Ie ⟨kb,kt,ko,kp,km,kpu,kma,kdm,kn,kdb⟩ ⟨R,2000000,2000016,N,base⟩ hR (N+1) p m s h1 h2 ⟨0,s,false,0,0,i,q,2000048⟩ ⟨Nat.zero_le _,hs,hi,.inr (.inl ⟨rfl,rfl⟩)⟩ (by simp);obtain⟨_,hu,hc,hw⟩:=hI;simp only at hi' hu hc hw;subst hi';refine⟨s',w,ic,q',hu,fun e hN=> ?_,hc,aA (b:=bc.m) h0 ⟨i'+1, ?_⟩⟩
 ·rcases hw with h|⟨h,_⟩|h
  ·exact(h e).elim
  ·omega
  ·exact h
 have e0:((0:Nat):Int)=0:=rfl;have e7:(s'.boxes.map af).length=s'.boxes.length:=by simp
 have e8:=aN s'.gone;have m1:(s'.boxes.map af).take s'.boxes.length=s'.boxes.map af:=aa (by omega);have m2:(az s'.gone).take s'.gone.length=az s'.gone:=aa (by omega);simp only[rI,Dr,Ds,Dt,Dq,e0] at hr;simp only[ai,vg,boxes,ints] at hr ⊢;generalize s'.boxes.map af=rb' at*;generalize az s'.gone=rg' at*;generalize s.boxes.map af=rb at*;generalize az s.gone=rg at*;cases w
 ·simp only[au,if_false] at hr;simp (maxSteps:=9^9) [ba,bc.m,bc.b,ab,setAt,hr]
 ·simp only[au,if_false,if_true] at hr;simp (maxSteps:=9^9) [ba,bc.m,bc.b,ab,setAt,hr,e7,e8,m1,m2]
theorem fI.al(h:fI.k M)(w:Int):run M 113 [.c (I w)] []=some (.a [I w,I 0,.sl true 7 [],.sl true 1 []],[]):=by
 refine aA (b:=fI.m) h ⟨0, ?_⟩;simp (maxSteps:=9^9) [ba,fI.m,fI.b,ab,setAt]
structure HP (b:bA):Prop where
 mT:iL b
 m:b.ae.length≤10
 g:b.gone.length≤50
structure Eb (s:aT):Prop where
 t:mN s
 b:s.boxes.length≤5
 g:s.gone.length≤21
 box:∀b∈s.boxes,HP b
theorem Dn{s:aT}(t: -1000000≤s.time∧s.time≤1000000)(b:s.boxes.length≤5)(g:s.gone.length≤21)(box:∀b∈s.boxes,HP b):Eb s:=by
 have key:∀l:List bA,(∀x∈l,x.ae.length≤10)→(l.flatMap b_).length≤10*l.length:=by
  intro l
  induction l with
  |nil=>intro _;simp
  |cons x l ih=>
   intro h;have h1:=ih fun y hy=>h y (bo _ hy)
   have h2:=h x (bf ..);simp only[cI,ax,b_,de,bK] at h1 ⊢;omega
 have:=key s.boxes fun x hx=>(box x hx).m
 exact⟨⟨⟨by omega,by omega,fun x hx=>(box x hx).mT,by omega⟩,by omega,by omega⟩,b,g,box⟩
theorem Good.Kz{b:bA}(h:Good b):HP b:=⟨h.u_,h.len,by have:=h.nV;omega⟩
theorem Used.Kz{n:Nat}{s:aT}(h:Used n s):Eb s:=by
 have G:=iI.1 h.ok;exact Dn ⟨by have:=G.time;omega,by have:=G.time;omega⟩ G.len (by have:=G.nV;omega) fun b hb=>(G.box b hb).1.Kz
def nB(s:List bp×List Int)(m:bp):List bp×List Int:=if m.gid∈s.2 then s else(s.1++[m],s.2++[m.gid])
theorem tr(s0:List Int):∀(ms:List bp) (l:List bp) (s:List Int),(fD ms).Nodup→(∀m∈ms,m.gid∈s↔m.gid∈s0)→(∀g,g∈s0→g∈s)→
  (ms.foldl nB (l,s)).1=l++ms.filter (fun m=> !decide (m.gid∈s0))∧∀g,g∈(ms.foldl nB (l,s)).2↔g∈s∨g∈fD ms
 |[],l,s,_,_,_=>by simp[fD]
 |m::ms,l,s,hn,h1,h2=>by
  have hn':m.gid∉fD ms∧(fD ms).Nodup:=by
   have:=List.nodup_cons.1 (show (m.gid::fD ms).Nodup from hn);exact this
  rw[fa,iX];have hm:=h1 m (bf ..);by_cases c:m.gid∈s
  ·have c0:=hm.1 c;have e:nB (l,s) m=(l,s):=by unfold nB;rw[if_pos c]
   rw[e];obtain⟨q1,q2⟩:=tr s0 ms l s hn'.2 (fun x hx=>h1 x (bo _ hx)) h2;refine⟨by rw[q1];simp[c0],fun g=> ?_⟩;rw[q2];simp only[fD,bq,uK];constructor
   ·rintro (q|q)
    ·exact .inl q
    ·exact .inr (.inr q)
   ·rintro (q|q|q)
    ·exact .inl q
    ·rw[q];exact .inl c
    ·exact .inr q
  ·have c0:¬m.gid∈s0:=fun q=>c (hm.2 q)
   have e:nB (l,s) m=(l++[m],s++[m.gid]):=by unfold nB;rw[if_neg c]
   rw[e];obtain⟨q1,q2⟩:=tr s0 ms (l++[m]) (s++[m.gid]) hn'.2 (fun x hx=>by
    rw[iC,gz];have hne:x.gid≠m.gid:=fun e=>hn'.1 (by rw[←e];exact iT hx)
    have:=h1 x (bo _ hx);constructor
    ·rintro (q|q)
     ·exact this.1 q
     ·exact(hne q).elim
    ·exact fun q=> .inl (this.2 q)) (fun g hg=>List.mem_append_left _ (h2 g hg))
   refine⟨by rw[q1];simp[c0],fun g=> ?_⟩;rw[q2];simp only[fD,bq,uK,iC,List.not_mem_nil,or_false,or_assoc]
theorem y7(s:List bp×List Int)(m:bp):(nB s m).1.length≤s.1.length+1∧(nB s m).2.length≤s.2.length+1:=by
 unfold nB;split
 ·omega
 ·simp
def HU(c:yH):List T:=[I c.df,I c.time,.row 13500 c.w 0 c.L.length,.row 11900 c.z 0 c.gone.length]
def Ew(c:yH)(i:Nat)(j:Nat)(s:List bp×List Int)(y:Nat×Nat×Nat):St:={t:=[(4,.c (.ptr 4 c.u4 0 0)),(5,.c (.ptr 5 c.u6 0 0)),(6,.c (.row 37 y.1 0 s.2.length)),(7,.c (I i)),(8,.c (.row 45 y.2.1 0 s.1.length)),(9,.c (I j))],o:=[(4,⟨c.u4,4,true,true,[oM]⟩),(5,⟨c.u6,4,true,true,[HU c]⟩),(37,⟨y.1,1,true,false,az s.2⟩),(45,⟨y.2.1,4,true,false,s.1.map ah⟩),(11900,⟨c.z,1,false,false,az c.gone⟩),(13500,⟨c.w,7,true,false,(jN c.L i).map af⟩)],n:=y.2.2}
def Il(c:yH)(i:Nat)(x:bA)(s:List bp×List Int)(y:Nat×Nat×Nat):St:={t:=[(4,.c (.ptr 4 c.u4 0 0)),(5,.c (.ptr 5 c.u6 0 0)),(6,.c (.row 37 y.1 0 s.2.length)),(7,.c (I i)),(8,.c (.row 45 y.2.1 0 s.1.length)),(9,.c (I x.ae.length)),(54,.c (.bool false))],o:=[(4,⟨c.u4,4,true,true,[oM]⟩),(5,⟨c.u6,4,true,true,[HU c]⟩),(37,⟨y.1,1,true,false,az s.2⟩),(45,⟨y.2.1,4,true,false,s.1.map ah⟩),(11900,⟨c.z,1,false,false,az c.gone⟩),(13500,⟨c.w,7,true,false,(jN c.L i).map af⟩)],n:=y.2.2}
theorem FZ(kc:bj.k M)(k:Nat)(c:yH)(i:Nat)(hi:i<c.L.length)(s0:List Int)(hs0:s0.length≤4194304)(hx:c.L[i].ae.length≤1048576)(hk:c.L[i].ae.length<k)(y:Nat×Nat×Nat):
  ∃z,eZ (ct (run M) k bQ.l1) k (Ew c i 0 ([],s0) y)=some (.exit 2,Il c i c.L[i] (c.L[i].ae.foldl nB ([],s0)) z):=by
 have el:((jN c.L i).map af).length=c.L.length:=by simp[sJ]
 have a0:∀hh,((jN c.L i).map af)[i]'hh=af c.L[i]:=by
  intro hh;simp only[f_,yi c.L i hi]
 obtain⟨x,hxx⟩:∃x,x=c.L[i]:=⟨_,rfl⟩
 rw[←hxx] at a0 hx hk ⊢;have er:(x.ae.map ah).length=x.ae.length:=by simp
 obtain⟨g,hr⟩:=jK (f:=ct (run M) k bQ.l1) x.ae nB (fun i s=>s.1.length≤i∧s.2.length≤4194304+i) (Ew c i) 2 (Il c i x)
  (fun i h s hs=>by have:=y7 s x.ae[i];omega)
  (fun j hj s y hs=>by
   obtain⟨v,v4,n⟩:=y;obtain⟨l,sn⟩:=s;simp only at hs;have e5:=cA (i:=j) (by omega);have e6:l.length+1≤4294967296:=by omega
   have e7:sn.length+1≤4294967296:=by omega
   have e9:(l.map ah).length=l.length:=by simp
   have e10:=aN sn;have h1:=bj.al kc sn x.ae[j].gid (by omega);have a1:∀hh,(x.ae.map ah)[j]'hh=ah x.ae[j]:=by intro hh;simp
   simp only[aE];unfold nB;by_cases q:x.ae[j].gid∈sn
   ·rw[decide_eq_true q] at h1;simp only[q,if_true,Ew,HU];simp only[af,ae,ints,ah,jM] at a0 a1 h1 ⊢;generalize x.ae.map ah=rx at*;generalize az x.gone=rxg at*;generalize az sn=rs at*;generalize (jN c.L i).map af=rd at*;generalize l.map ah=rl at*;generalize x.ae[j].flags.map aS=rf at*;simp (maxSteps:=9^9) [bQ.l1,setAt,hi,hj,h1,e5,e10,er,el,a0,a1,aa]
   ·rw[decide_eq_false q] at h1;simp only[q,if_false,Ew,HU,po,cg,bq,bF,ax,bZ];simp only[af,ae,ints,ah,jM] at a0 a1 h1 ⊢;generalize x.ae.map ah=rx at*;generalize az x.gone=rxg at*;generalize az sn=rs at*;generalize (jN c.L i).map af=rd at*;generalize l.map ah=rl at*;generalize x.ae[j].flags.map aS=rf at*;simp (maxSteps:=9^9) [bQ.l1,setAt,hi,hj,h1,e5,e6,e7,e9,e10,er,el,a0,a1,aa])
  (fun s y hs=>by
   obtain⟨v,v4,n⟩:=y;obtain⟨l,sn⟩:=s;simp only[aE,Ew,Il,HU];simp only[af,ae,ints] at a0 ⊢;generalize x.ae.map ah=rx at*;generalize az x.gone=rxg at*;generalize az sn=rs at*;generalize (jN c.L i).map af=rd at*;generalize l.map ah=rl at*;simp (maxSteps:=9^9) [bQ.l1,hi,er,el,a0]) ([],s0) ⟨by simp,by simp only;omega⟩
 exact⟨_,gT (hr y) (by omega)⟩
structure Nf where
 i:Nat
 seen:List Int
 v:Nat
 n:Nat
def yJ(c:yH)(s:Nf):St:={t:=[(4,.c (.ptr 4 c.u4 0 0)),(5,.c (.ptr 5 c.u6 0 0)),(6,.c (.row 37 s.v 0 s.seen.length)),(7,.c (I s.i))],o:=[(4,⟨c.u4,4,true,true,[oM]⟩),(5,⟨c.u6,4,true,true,[HU c]⟩),(37,⟨s.v,1,true,false,az s.seen⟩),(11900,⟨c.z,1,false,false,az c.gone⟩),(13500,⟨c.w,7,true,false,(jN c.L s.i).map af⟩)],n:=s.n}
def F1(c:yH)(s:Nf):St:={t:=[(4,.c (.ptr 4 c.u4 0 0)),(5,.c (.ptr 5 c.u6 0 0)),(6,.c (.row 37 s.v 0 s.seen.length)),(7,.c (I s.i)),(42,.c (.bool false))],o:=[(4,⟨c.u4,4,true,true,[oM]⟩),(5,⟨c.u6,4,true,true,[HU c]⟩),(37,⟨s.v,1,true,false,az s.seen⟩),(11900,⟨c.z,1,false,false,az c.gone⟩),(13500,⟨c.w,7,true,false,(jN c.L s.i).map af⟩)],n:=s.n}
structure OU (c:yH) (s:Nf):Prop where
 i:s.i≤c.L.length
 mem:∀g,g∈s.seen↔g∈kz c.L s.i
 len:s.seen.length≤100*s.i
theorem F0(kc:bj.k M)(k:Nat)(hk:200≤k)(c:yH)(hL:c.L.length≤1000)(hb:∀b∈c.L,b.ae.length≤100∧(fD b.ae).Nodup)(s:Nf)(hI:OU c s)(hs:s.i<c.L.length):
  ∃s',ct (run M) k bQ.l0 (yJ c s)=some (.normal,yJ c s')∧OU c s'∧s'.i=s.i+1:=by
 obtain⟨i,sn,v,n⟩:=s;obtain⟨_,hm,hl⟩:=hI;simp only at hs hm hl;obtain⟨hx,hnd⟩:=hb _ (aq hs);obtain⟨⟨v5,v4,n4⟩,r1⟩:=FZ kc k c i hs sn (by omega) (by omega) (by omega) (v,n+80,n+128);obtain⟨f1,f2⟩:=tr sn c.L[i].ae [] sn hnd (fun _ _=>Iff.rfl) (fun _ h=>h);rw[List.nil_append] at f1;have f3:(c.L[i].ae.foldl nB ([],sn)).1.length≤c.L[i].ae.length∧(c.L[i].ae.foldl nB ([],sn)).2.length≤sn.length+c.L[i].ae.length:=by
  have key:∀ms:List bp,(ms.foldl nB ([],sn)).1.length≤ms.length∧(ms.foldl nB ([],sn)).2.length≤sn.length+ms.length:=fun ms=>
   vf ms nB (fun j s=>s.1.length≤j∧s.2.length≤sn.length+j) (fun j h s hs=>by have:=y7 s ms[j];omega) ([],sn) ⟨by simp,by simp⟩
  exact key _
 have hded:oc c.L i c.L[i]={c.L[i] with ae:=(c.L[i].ae.foldl nB ([],sn)).1}:=by
  unfold oc;rw[f1];congr 1;apply List.filter_congr;intro m _;congr 1;exact decide_eq_decide.2 (hm m.gid).symm
 have t3:(jN c.L (i+1)).map af=((jN c.L i).map af).set i (af (oc c.L i c.L[i])):=by rw[yh c.L i hs,iU]
 rw[hded] at t3;have e5:=cA (i:=i) (by omega);have ez:((0:Nat):Int)=0:=rfl;have el:((jN c.L i).map af).length=c.L.length:=by simp[sJ]
 have a1:∀hh,((jN c.L i).map af)[i]'hh=af c.L[i]:=by
  intro hh;simp only[f_,yi c.L i hs]
 have hh:∃n',ct (run M) k bQ.l0 (yJ c ⟨i,sn,v,n⟩)=some (.normal,yJ c ⟨i+1,(c.L[i].ae.foldl nB ([],sn)).2,v5,n'⟩):=by
  simp only[Ew,Il,ez,bF,dM] at r1;simp only[yJ,t3];clear t3 hded f1 f2 hm;have efl:((c.L[i].ae.foldl nB ([],sn)).1.map ah).length=(c.L[i].ae.foldl nB ([],sn)).1.length:=by simp
  generalize c.L[i].ae.foldl nB ([],sn)=F at*;obtain⟨fl,fs⟩:=F;simp only[af,ae,ints,HU] at r1 a1 efl ⊢;generalize fl.map ah=rl at*;generalize az fs=rfs at*;generalize az sn=rs at*;generalize (jN c.L i).map af=rd at*;generalize c.L[i]=x at*;generalize c.L.length=N at*;generalize x.ae.map ah=rx at*;generalize az x.gone=rg at*;generalize az c.gone=rcg at*;simp (maxSteps:=9^9) [bQ.l0,setAt,hs,r1,e5,el,a1,efl,aa]
 obtain⟨n',hh⟩:=hh;refine⟨_,hh,⟨hs,fun g=> ?_, ?_⟩,rfl⟩
 ·simp only;rw[f2,tu c.L i hs,iC,hm]
 ·simp only;omega
theorem Im(k:Nat)(c:yH)(s:Nf)(hs:¬s.i<c.L.length):
  ∃n',ct (run M) k bQ.l0 (yJ c s)=some (.exit 0,F1 c {s with n:=n'}):=by
 obtain⟨i,sn,v,n⟩:=s;simp only at hs;simp only[yJ,F1,HU];generalize (jN c.L i).map af=rd at*;simp (maxSteps:=9^9) [bQ.l0,hs]
theorem tK{l:List bA}{g:Int}:kZ l g=none↔∀m∈l,m.gid≠g:=by
 unfold kZ;rw[List.find?_eq_none];simp
theorem zE{l:List bA}(h:(l.map (·.gid)).Nodup){m:bA}(hm:m∈l):kZ l m.gid=some m:=by
 induction l with
 |nil=>simp at hm
 |cons x l ih=>
  rw[bq,List.nodup_cons] at h;unfold kZ at ih ⊢;rw[List.find?_cons];rcases List.mem_cons.1 hm with rfl|hm
  ·simp
  ·have:x.gid≠m.gid:=fun e=>h.1 (by rw[e];exact iT hm)
   simp only[this,decide_false];exact ih h.2 hm
theorem uZ{a b:List bA}{g:Int}(h:g∈fR a∨g∈fR b):(mC a b g).gid=g:=by
 unfold mC;cases h1:kZ a g with
 |some x=>
  cases h2:kZ b g with
  |some y=>simp only[oQ];exact(lu h1).2
  |none=>exact(lu h1).2
 |none=>
  cases h2:kZ b g with
  |some y=>exact(lu h2).2
  |none=>
   exfalso;rw[tK] at h1 h2;rcases h with h|h
   ·obtain⟨m,hm,e⟩:=List.mem_map.1 h;exact h1 m hm e
   ·obtain⟨m,hm,e⟩:=List.mem_map.1 h;exact h2 m hm e
theorem Hp{a b:List bA}(ha:(fR a).Nodup)(hb:(fR b).Nodup){m:bA}:m∈oU a b↔(m.gid∈fR a∨m.gid∈fR b)∧m=mC a b m.gid:=by
 simp only[oU,kX,iC,oI,fN];constructor
 ·rintro (⟨x,hx,rfl⟩|⟨hm,hn⟩)
  ·have h1:=zE ha hx;have hg:x.gid∈fR a:=iT hx;cases h2:kZ b x.gid with
   |some y=>
    simp only[oQ];refine⟨.inl hg, ?_⟩;simp only[mC,h1,h2]
   |none=>
    simp only;refine⟨.inl hg, ?_⟩;simp only[mC,h1,h2]
  ·have h1:=zE hb hm;simp only[cn] at hn;refine⟨.inr (iT hm), ?_⟩;simp only[mC,h1,hn]
 ·rintro ⟨h,e⟩;cases h1:kZ a m.gid with
  |some x=>
   left;obtain⟨k1,k2⟩:=lu h1;refine⟨x,k1, ?_⟩;rw[e,k2];simp only[mC,h1];cases h2:kZ b m.gid<;>rfl
  |none=>
   right;cases h2:kZ b m.gid with
   |none=>
    exfalso;rw[tK] at h1 h2;rcases h with h|h
    ·obtain⟨m',hm,e⟩:=List.mem_map.1 h;exact h1 m' hm e
    ·obtain⟨m',hm,e⟩:=List.mem_map.1 h;exact h2 m' hm e
   |some y=>
    refine⟨?_,by simp⟩;have:m=y:=by rw[e];simp only[mC,h1,h2]
    rw[this];exact(lu h2).1
theorem Df{a b:List bA}(ha:(fR a).Nodup)(hb:(fR b).Nodup):(fR (oU a b)).Nodup:=by
 have e1:fR (kX a b)=fR a:=by
  unfold fR kX;rw[List.map_map];apply List.map_congr_left;intro m _;simp only[Function.comp];split
  ·exact oQ _ _
  ·rfl
 unfold oU;rw[fR,cg];change (fR _++fR _).Nodup;rw[e1,List.nodup_append];refine⟨ha, ?_, ?_⟩
 ·exact hb.sublist (List.Sublist.map _ List.filter_sublist)
 ·intro x hx y hy e;subst e;obtain⟨m,hm,rfl⟩:=List.mem_map.1 hy;rw[fN] at hm;simp only[cn,tK] at hm;obtain⟨m',hm',e⟩:=List.mem_map.1 hx;exact hm.2 m' hm' e
theorem Iv{a b:List bA}(G:List Int)(ha:(fR a).Nodup)(hb:(fR b).Nodup):
  fv (·.gid) ((oU a b).filter fun m=> !decide (m.gid∈G))=((aR (fR a) (fR b)).filter fun g=> !decide (g∈G)).map (mC a b):=by
 refine vw (k:=fun m:bA=>m.gid) ?_ ?_ fun m=> ?_
 ·refine p5 (oJ _) ?_;have hp:=(oN (k:=fun m:bA=>m.gid) ((oU a b).filter fun m=> !decide (m.gid∈G))).map (fun m:bA=>m.gid);rw[hp.nodup_iff];exact(Df ha hb).sublist (List.Sublist.map _ List.filter_sublist)
 ·rw[B2,List.pairwise_map];have h:=(n8 (fR a) (fR b)).filter (fun g=> !decide (g∈G));refine List.Pairwise.imp_of_mem ?_ h;intro x y hx hy hxy;rw[fN,je] at hx hy;rw[uZ hx.1,uZ hy.1];exact hxy
 ·rw[qJ,fN,Hp ha hb,oI];constructor
  ·rintro ⟨⟨h1,h2⟩,h3⟩;exact⟨m.gid,List.mem_filter.2 ⟨(je _ _ _).2 h1,h3⟩,h2.symm⟩
  ·rintro ⟨g,hg,rfl⟩;rw[fN,je] at hg;have:=uZ hg.1;rw[this];exact⟨⟨hg.1,rfl⟩,hg.2⟩
end Mx
