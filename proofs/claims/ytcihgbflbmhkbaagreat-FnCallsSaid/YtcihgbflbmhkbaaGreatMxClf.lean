/-
  What more of the functions compute, each by a small evaluation; no condition beyond what each says.
-/
import Derived.Test.YtcihgbflbmhkbaaGreatMxCle
set_option maxHeartbeats 16000000
set_option linter.unusedSimpArgs false
set_option linter.unusedVariables false
namespace Mx
open Go
variable {M:Nat→Option Body}
def fP(l:List bz):List Int:=l.map (·.gid)
theorem xn(l:List bz)(s:List Int):l.foldl (fun s m=>j8 s m.gid) s=(fP l).foldl j8 s:=by
 simp only[fP,List.foldl_map]
def K9(a b:List bz)(G:List Int)(i:Nat)(s:List Int)(x:Nat×Nat):St:={t:=[(0,.c (boxes a)),(1,.c (boxes b)),(2,.c (ints G)),(7,.c (.row 16 x.1 0 s.length)),(8,.c (I i))],o:=[(16,⟨x.1,1,true,false,ax s⟩)],n:=x.2}
def ME(a b:List bz)(G:List Int)(s:List Int)(x:Nat×Nat):St:={t:=[(0,.c (boxes a)),(1,.c (boxes b)),(2,.c (ints G)),(7,.c (.row 16 x.1 0 s.length)),(8,.c (I a.length)),(20,.c (.bool false))],o:=[(16,⟨x.1,1,true,false,ax s⟩)],n:=x.2}
def K8(a b:List bz)(G:List Int)(i:Nat)(s:List Int)(x:Nat×Nat):St:={t:=[(0,.c (boxes a)),(1,.c (boxes b)),(2,.c (ints G)),(7,.c (.row 16 x.1 0 s.length)),(9,.c (I i))],o:=[(16,⟨x.1,1,true,false,ax s⟩)],n:=x.2}
def MD(a b:List bz)(G:List Int)(s:List Int)(x:Nat×Nat):St:={t:=[(0,.c (boxes a)),(1,.c (boxes b)),(2,.c (ints G)),(7,.c (.row 16 x.1 0 s.length)),(9,.c (I b.length)),(41,.c (.bool false))],o:=[(16,⟨x.1,1,true,false,ax s⟩)],n:=x.2}
theorem HU(kin:bl.k M)(kput:b7.k M)(k:Nat)(a b:List bz)(G:List Int)(ha:a.length≤5)(hk:a.length<k)(x:Nat×Nat):
  ∃y,fi (cy (run M) k a7.l0) k (K9 a b G 0 [] x)=some (.exit 0,ME a b G (a.foldl (fun s m=>j8 s m.gid) []) y):=by
 obtain⟨g,hr⟩:=jz (f:=cy (run M) k a7.l0) a (fun s m=>j8 s m.gid) (fun i s=>s.length≤i) (K9 a b G) 0 (ME a b G)
  (fun i h s hs=>by have:=sg s a[i].gid;omega)
  (fun i hi s x hs=>by
   obtain⟨v,n⟩:=x;have e5:=cz (i:=i) (by omega);have e9:=aI s;have hra:(a.map af).length=a.length:=by simp
   have h1:=bl.al kin s a[i].gid (by omega);have h2:=b7.al kput s a[i].gid (by omega);have a1:∀hh,(a.map af)[i]'hh=af a[i]:=by intro hh;simp
   have e10:=aI (kY s a[i].gid);have hfl:=kT (kY s a[i].gid);simp only[aH,j8];by_cases c:a[i].gid∈s
   ·rw[decide_eq_true c] at h1;rw[if_pos c];simp only[K9];simp only[af,boxes,ae,ints] at a1 h1 ⊢;generalize ax s=rs at*;generalize a.map af=ra at*;generalize b.map af=rb at*;simp (maxSteps:=9^9) [a7.l0,hra,hi,h1,a1,e5,e9,ab]
   ·rw[decide_eq_false c] at h1;rw[if_neg c];simp only[K9];simp only[af,boxes,ae,ints] at a1 h1 h2 ⊢;generalize ax (kY s a[i].gid)=rp at*;generalize ax s=rs at*;generalize a.map af=ra at*;generalize b.map af=rb at*;simp (maxSteps:=9^9) [a7.l0,hra,hi,h1,h2,a1,e5,e9,e10,hfl,ab])
  (fun s x hs=>by
   obtain⟨v,n⟩:=x;have hra:(a.map af).length=a.length:=by simp
   simp only[aH,K9,ME,boxes,ints];generalize a.map af=ra at*;generalize b.map af=rb at*;simp (maxSteps:=9^9) [a7.l0,hra]) [] (by simp)
 exact⟨_,gP (hr x) (by omega)⟩
theorem HT(kin:bl.k M)(kput:b7.k M)(k:Nat)(a b:List bz)(G:List Int)(hb:b.length≤5)(hk:b.length<k)(s0:List Int)(h0:s0.length≤5)(x:Nat×Nat):
  ∃y,fi (cy (run M) k a7.l1) k (K8 a b G 0 s0 x)=some (.exit 2,MD a b G (b.foldl (fun s m=>j8 s m.gid) s0) y):=by
 obtain⟨g,hr⟩:=jz (f:=cy (run M) k a7.l1) b (fun s m=>j8 s m.gid) (fun i s=>s.length≤5+i) (K8 a b G) 2 (MD a b G)
  (fun i h s hs=>by have:=sg s b[i].gid;omega)
  (fun i hi s x hs=>by
   obtain⟨v,n⟩:=x;have e5:=cz (i:=i) (by omega);have e9:=aI s;have hra:(b.map af).length=b.length:=by simp
   have h1:=bl.al kin s b[i].gid (by omega);have h2:=b7.al kput s b[i].gid (by omega);have a1:∀hh,(b.map af)[i]'hh=af b[i]:=by intro hh;simp
   have e10:=aI (kY s b[i].gid);have hfl:=kT (kY s b[i].gid);simp only[aH,j8];by_cases c:b[i].gid∈s
   ·rw[decide_eq_true c] at h1;rw[if_pos c];simp only[K8];simp only[af,boxes,ae,ints] at a1 h1 ⊢;generalize ax s=rs at*;generalize a.map af=ra at*;generalize b.map af=rb at*;simp (maxSteps:=9^9) [a7.l1,hra,hi,h1,a1,e5,e9,ab]
   ·rw[decide_eq_false c] at h1;rw[if_neg c];simp only[K8];simp only[af,boxes,ae,ints] at a1 h1 h2 ⊢;generalize ax (kY s b[i].gid)=rp at*;generalize ax s=rs at*;generalize a.map af=ra at*;generalize b.map af=rb at*;simp (maxSteps:=9^9) [a7.l1,hra,hi,h1,h2,a1,e5,e9,e10,hfl,ab])
  (fun s x hs=>by
   obtain⟨v,n⟩:=x;have hra:(b.map af).length=b.length:=by simp
   simp only[aH,K8,MD,boxes,ints];generalize a.map af=ra at*;generalize b.map af=rb at*;simp (maxSteps:=9^9) [a7.l1,hra]) s0 (by omega)
 exact⟨_,gP (hr x) (by omega)⟩
def my(a b:List bz)(g:Int):bz:=match kV a g,kV b g with
 |some x,some y=>ig x y
 |some x,none=>x
 |none,some y=>y
 |none,none=>⟨0,[],0,0,0,[],[]⟩
def yw(a b:List bz)(G:List Int)(out:List bz)(g:Int):List bz:=if g∈G then out else out++[my a b g]
def G6(a b:List bz)(G gs:List Int)(v16:Nat)(i:Nat)(out:List bz)(x:Nat×Nat):St:={t:=[(0,.c (boxes a)),(1,.c (boxes b)),(2,.c (ints G)),(7,.c (.row 16 v16 0 gs.length)),(10,.c (.row 59 x.1 0 out.length)),(11,.c (I i))],o:=[(16,⟨v16,1,true,false,ax gs⟩),(59,⟨x.1,7,true,false,out.map af⟩)],n:=x.2}
def MC(a b:List bz)(G gs:List Int)(v16:Nat)(out:List bz)(x:Nat×Nat):St:={t:=[(0,.c (boxes a)),(1,.c (boxes b)),(2,.c (ints G)),(7,.c (.row 16 v16 0 gs.length)),(10,.c (.row 59 x.1 0 out.length)),(11,.c (I gs.length)),(63,.c (.bool false))],o:=[(16,⟨v16,1,true,false,ax gs⟩),(59,⟨x.1,7,true,false,out.map af⟩)],n:=x.2}
structure NO (M:Nat→Option Body):Prop where
 G9:bl.k M
 copy:b5.k M
 join:eY.k M
 at_:gi.k M
theorem Kg(k:Nat)(a b:List bz)(G gs:List Int)(v16:Nat)(out:List bz)(x:Nat×Nat):
  ∃y,cy (run M) k a7.l2 (G6 a b G gs v16 gs.length out x)=some (.exit 4,MC a b G gs v16 out y):=by
 obtain⟨v,n⟩:=x;simp only[aH,G6,MC,boxes,ints];generalize a.map af=ra at*;generalize b.map af=rb at*;generalize out.map af=ro at*;simp (maxSteps:=9^9) [a7.l2,aa]
theorem HS(K:NO M)(k:Nat)(a b:List bz)(ha:mC a)(hb:mC b)(G gs:List Int)(hG:G.length≤4194304)(hgs:gs.length≤100)(hmem:∀g∈gs,g∈fP a∨g∈fP b)(v16 i:Nat)(hi:i<gs.length)(out:List bz)(ho:out.length≤i)(x:Nat×Nat):
  ∃y,cy (run M) k a7.l2 (G6 a b G gs v16 i out x)=some (.normal,G6 a b G gs v16 (i+1) (yw a b G out gs[i]) y):=by
 obtain⟨v,n⟩:=x;have hla:=ha.len;have hlb:=hb.len;have h1:=bl.al K.G9 G gs[i] (by omega);have h2:=gi.al K.at_ a gs[i] (by omega);have h3:=gi.al K.at_ b gs[i] (by omega);have e5:=cz (i:=i) (by omega);have e6:out.length+1≤4294967296:=by omega
 have eg:=aI gs;have a0:∀hh,(ax gs)[i]'hh=[I gs[i]]:=by intro hh;simp[ax]
 have eo:(out.map af).length=out.length:=by simp
 have ea:(a.map af).length=a.length:=by simp
 have eb:(b.map af).length=b.length:=by simp
 simp only[aH];unfold yw;by_cases c:gs[i]∈G
 ·rw[decide_eq_true c] at h1;rw[if_pos c];simp only[G6];simp only[boxes,ints] at*;generalize ax gs=rg at*;generalize ax G=rG at*;generalize a.map af=ra at*;generalize b.map af=rb at*;generalize out.map af=ro at*;simp (maxSteps:=9^9) [a7.l2,aa,hi,h1,e5,eg,a0]
 ·rw[decide_eq_false c] at h1;rw[if_neg c];cases hp:me a gs[i] with
  |some p=>
   obtain⟨p1,p2⟩:=iO hp;have gp:=ha.j2 _ (ar p1);have a1:∀hh,(a.map af)[p]'hh=af a[p]:=by intro hh;simp
   rw[hp] at h2;cases hq:me b gs[i] with
   |some q=>
    obtain⟨q1,q2⟩:=iO hq;have gq:=hb.j2 _ (ar q1);have a2:∀hh,(b.map af)[q]'hh=af b[q]:=by intro hh;simp
    rw[hq] at h3;have h4:=eY.al K.join a[p] b[q] (gp.AM gq);have ej:my a b gs[i]=ig a[p] b[q]:=by simp only[my,p2,q2]
    rw[ej];simp only[G6,cU,bB,bJ,aC,bU];simp only[af,bM,boxes,ae,ints,dN] at h1 h2 h3 h4 a1 a2 ⊢;generalize ig a[p] b[q]=j at*;generalize ax gs=rg at*;generalize ax G=rG at*;generalize a.map af=ra at*;generalize b.map af=rb at*;generalize out.map af=ro at*;generalize a[p].ae.map ah=r1 at*;generalize ax a[p].gone=r2 at*;generalize b[q].ae.map ah=r3 at*;generalize ax b[q].gone=r4 at*;generalize j.ae.map ah=r5 at*;generalize ax j.gone=r6 at*;simp (maxSteps:=9^9) [a7.l2,aa,hi,p1,q1,h1,h2,h3,h4,e5,e6,eg,a0,a1,a2,eo,ea,eb,ab]
   |none=>
    rw[hq] at h3;have h4:=b5.al K.copy a[p] gp.tM;have ej:my a b gs[i]=a[p]:=by simp only[my,p2,o9 hq]
    rw[ej];simp only[G6,cU,bB,bJ,aC,bU];simp only[af,bM,boxes,ae,ints,dN] at h1 h2 h3 h4 a1 ⊢;generalize ax gs=rg at*;generalize ax G=rG at*;generalize a.map af=ra at*;generalize b.map af=rb at*;generalize out.map af=ro at*;generalize a[p].ae.map ah=r1 at*;generalize ax a[p].gone=r2 at*;simp (maxSteps:=9^9) [a7.l2,aa,hi,p1,h1,h2,h3,h4,e5,e6,eg,a0,a1,eo,ea,ab]
  |none=>
   rw[hp] at h2;cases hq:me b gs[i] with
   |some q=>
    obtain⟨q1,q2⟩:=iO hq;have gq:=hb.j2 _ (ar q1);have a2:∀hh,(b.map af)[q]'hh=af b[q]:=by intro hh;simp
    rw[hq] at h3;have h4:=b5.al K.copy b[q] gq.tM;have ej:my a b gs[i]=b[q]:=by simp only[my,q2,o9 hp]
    rw[ej];simp only[G6,cU,bB,bJ,aC,bU];simp only[af,bM,boxes,ae,ints,dN] at h1 h2 h3 h4 a2 ⊢;generalize ax gs=rg at*;generalize ax G=rG at*;generalize a.map af=ra at*;generalize b.map af=rb at*;generalize out.map af=ro at*;generalize b[q].ae.map ah=r3 at*;generalize ax b[q].gone=r4 at*;simp (maxSteps:=9^9) [a7.l2,aa,hi,q1,h1,h2,h3,h4,e5,e6,eg,a0,a2,eo,eb,ab]
   |none=>
    exfalso;have n1:=o9 hp;have n2:=o9 hq;unfold kV at n1 n2;rw[List.find?_eq_none] at n1 n2;rcases hmem _ (ar hi) with z|z
    ·obtain⟨m,hm,e⟩:=List.mem_map.1 z;exact n1 m hm (by simp[e])
    ·obtain⟨m,hm,e⟩:=List.mem_map.1 z;exact n2 m hm (by simp[e])
def ER(v:Nat)(L:List bz)(i:Nat):List (Nat×Ob):=[(59,⟨v,7,true,false,(jA L i).map af⟩)]
def K7(v:Nat)(L:List bz)(i k:Nat)(x:Nat):St:={t:=[(10,.c (.row 59 v 0 L.length)),(14,.c (I i)),(15,.c (I k))],o:=ER v L i,n:=x}
def Kf(v:Nat)(L:List bz)(i:Nat)(x:bz):Option Nat→Nat→Out×St
 |none,m=>(.exit 9,{t:=[(10,.c (.row 59 v 0 L.length)),(14,.c (I i)),(15,.c (I i)),(130,.c (.bool false))],o:=ER v L i,n:=m})
 |some _,m=>(.exit 9,{t:=[(10,.c (.row 59 v 0 L.length)),(14,.c (I i))],o:=[(59,⟨v,7,true,false,((jA L i).map af).set i (af {x with name:=kX x.name x.gid})⟩)],n:=m})
theorem uZ(L:List bz)(i k:Nat)(hk:k<i)(hi:i<L.length):(jA L i)[k]'(by rw[oX];omega)=(qf (L.take i))[k]'(by rw[lz];simp;omega):=by
 simp only[jA];rw[List.getElem_append_left]
theorem HR(kn:cE.k M)(v:Nat)(L:List bz)(hL:L.length≤1048576)(hb:∀b∈L,b.name.length≤1048576∧b.gid≤9223372036854775807)(K i:Nat)(hi:i<L.length)(hK:i<K):
  ∃g:Nat→Nat,∀x,fi (cy (run M) K a7.l4) K (K7 v L i 0 x)=some (Kf v L i L[i] (eE (tC (fun y:bz=>decide (y.name=L[i].name)) (qf (L.take i))) i) (g x)):=by
 have hx:=hb _ (ar hi);have hrl:(qf (L.take i)).length=i:=by rw[lz];simp;omega
 have h2:=cE.al kn L[i].name L[i].gid hx.1 hx.2;have el:((jA L i).map af).length=L.length:=by simp[oX]
 have a1:∀hh,((jA L i).map af)[i]'hh=af L[i]:=by
  intro hh;simp only[fb,wH L i hi]
 obtain⟨g,hg⟩:=mW (f:=cy (run M) K a7.l4) i (tC (fun y:bz=>decide (y.name=L[i].name)) (qf (L.take i))) (K7 v L i) (Kf v L i L[i]) (fun q m=>by cases q<;>simp[Kf])
  (fun k hk x c=>by
   rw[jO _ _ _ (by omega)] at c;simp only[decide_eq_false_iff_not] at c;have e5:=cz (i:=k) (by omega);have hk2:k<L.length:=by omega
   have a2:∀hh,((jA L i).map af)[k]'hh=af ((qf (L.take i))[k]'(by omega)):=by
    intro hh;simp only[fb,uZ L i k hk hi]
   simp only[K7,ER];simp only[af,ae,ints] at a1 a2 ⊢;generalize (qf (L.take i))[k]'(by omega)=y at*;generalize (jA L i).map af=rr at*;generalize L[i]=z at*;generalize z.ae.map ah=r1 at*;generalize ax z.gone=r2 at*;generalize y.ae.map ah=r3 at*;generalize ax y.gone=r4 at*;simp (maxSteps:=9^9) [a7.l4,aa,hk,hi,hk2,c,e5,el,a1,a2])
  (fun k hk x c=>by
   rw[jO _ _ _ (by omega)] at c;simp only[decide_eq_true_eq] at c;have hk2:k<L.length:=by omega
   have a2:∀hh,((jA L i).map af)[k]'hh=af ((qf (L.take i))[k]'(by omega)):=by
    intro hh;simp only[fb,uZ L i k hk hi]
   simp only[K7,Kf,ER];simp only[af,ae,ints] at a1 a2 ⊢;generalize (qf (L.take i))[k]'(by omega)=y at*;generalize (jA L i).map af=rr at*;generalize L[i]=z at*;generalize kX z.name z.gid=nm at*;generalize z.ae.map ah=r1 at*;generalize ax z.gone=r2 at*;generalize y.ae.map ah=r3 at*;generalize ax y.gone=r4 at*;simp (maxSteps:=9^9) [a7.l4,aa,setAt,hk,hi,hk2,c,h2,el,a1,a2])
  (fun x=>by
   simp only[K7,Kf,ER];generalize (jA L i).map af=rr at*;simp (maxSteps:=9^9) [a7.l4,aa])
 exact⟨g,fun x=>gP (hg x) (by omega)⟩
theorem EB(p:bz→Bool)(l:List bz):l.any p=(eE (tC p l) l.length).isSome:=by
 cases q:eE (tC p l) l.length with
 |none=>
  have hn:=mg q;have:l.any p=false:=by
   rw[List.any_eq_false];intro b hb;obtain⟨j,hj,rfl⟩:=bF hb;have:=hn j hj;rw[jO _ _ _ hj] at this;simp[this]
  rw[this];rfl
 |some k=>
  obtain⟨h1,h2,_⟩:=mf q;rw[jO _ _ _ h1] at h2;have:l.any p=true:=List.any_eq_true.2 ⟨_,ar h1,h2⟩;rw[this];rfl
def LJ(v:Nat)(L:List bz)(i:Nat)(x:Nat):St:={t:=[(10,.c (.row 59 v 0 L.length)),(14,.c (I i))],o:=ER v L i,n:=x}
def MB(v:Nat)(L:List bz)(x:Nat):St:={t:=[(10,.c (.row 59 v 0 L.length)),(14,.c (I L.length)),(125,.c (.bool false))],o:=ER v L L.length,n:=x}
theorem HQ(kn:cE.k M)(v:Nat)(L:List bz)(hL:L.length≤1048576)(hb:∀b∈L,b.name.length≤1048576∧b.gid≤9223372036854775807)(K:Nat)(hK:L.length<K)(x:Nat):
  ∃y,fi (cy (run M) K a7.l3) K (LJ v L 0 x)=some (.exit 7,MB v L y):=by
 obtain⟨g,hr⟩:=lh (f:=cy (run M) K a7.l3) L.length (LJ v L) 7 (MB v L)
  (fun i hi x=>by
   obtain⟨g,hg⟩:=HR kn v L hL hb K i hi (by omega);have e5:=cz (i:=i) (by omega);have hrl:(qf (L.take i)).length=i:=by rw[lz];simp;omega
   have hany:=EB (fun y:bz=>decide (y.name=L[i].name)) (qf (L.take i));rw[hrl] at hany;have hs:=wG L i hi;have ez:((0:Nat):Int)=0:=rfl;have el:((jA L i).map af).length=L.length:=by simp[oX]
   have a1:((jA L i).map af)[i]'(by omega)=af L[i]:=by
    simp only[fb,wH L i hi]
   simp only[LJ,ER,hs,fR];simp only[K7,ER,ez] at hg;unfold pF;rw[hany];cases hq:eE (tC (fun y:bz=>decide (y.name=L[i].name)) (qf (L.take i))) i with
   |none=>
    simp only[hq,Kf,ER] at hg;have e11:((jA L i).map af).set i (af L[i])=(jA L i).map af:=by
     rw[←a1,List.set_getElem_self]
    simp only[Option.isSome_none,ay,if_false];rw[e11];clear a1;generalize (jA L i).map af=rr at*;simp (maxSteps:=9^9) [a7.l3,hi,hg,e5]
   |some q=>
    simp only[hq,Kf] at hg;simp only[Option.isSome_some,if_true];clear a1;generalize ((jA L i).map af).set i (af {L[i] with name:=kX L[i].name L[i].gid})=r2 at*
    generalize (jA L i).map af=rr at*;simp (maxSteps:=9^9) [a7.l3,hi,hg,e5])
  (fun x=>by
   simp only[LJ,MB,ER];generalize (jA L L.length).map af=rr at*;simp (maxSteps:=9^9) [a7.l3])
 exact⟨_,gP (hr x) (by omega)⟩
theorem wz(a b:List bz)(G:List Int):∀(gs:List Int) (out:List bz),gs.foldl (yw a b G) out=out++(gs.filter fun g=> !decide (g∈G)).map (my a b)
 |[],out=>by simp
 |g::gs,out=>by
  rw[ff,wz a b G gs,iP];unfold yw;by_cases c:g∈G
  ·simp[c]
  ·simp[c]
def lJ(a b:List bz)(G:List Int):List bz:=qf (((aV (fP a) (fP b)).filter fun g=> !decide (g∈G)).map (my a b))
theorem AO{a b:List bz}(ha:mC a)(hb:mC b)(g:Int):(my a b g).name.length≤12∧(my a b g).gid≤9999:=by
 have hg:∀{c:bz},Good c→c.name.length≤12∧c.gid≤9999:=fun {c} hc=>⟨(mi hc.name).2,hc.gid.2⟩
 unfold my;cases hp:kV a g with
 |some x=>
  have h1:=hg (ha.j2 _ (ln hp).1);cases hq:kV b g with
  |some y=>
   have h2:=hg (hb.j2 _ (ln hq).1);simp only[oC];rcases qC x y with q|q<;>rw[q]
   ·exact h1
   ·exact⟨h2.1,h1.2⟩
  |none=>exact h1
 |none=>
  cases hq:kV b g with
  |some y=>exact hg (hb.j2 _ (ln hq).1)
  |none=>simp
theorem a7.al(h:a7.k M)(a b:List bz)(G:List Int)(ha:mC a)(hb:mC b)(hG:G.length≤4194304):
  run M 466 [.c (boxes a),.c (boxes b),.c (ints G)] []=some (.c (.sl true 7 ((lJ a b G).map af)),[]):=by
 obtain⟨h0,kin,kput,kcopy,kjoin,kat,kname⟩:=h;have K:NO M:=⟨kin,kcopy,kjoin,kat⟩;have hla:=ha.len;have hlb:=hb.len;refine ao (b:=a7.m) h0 ⟨21, ?_⟩;have hgl:(fP a).length=a.length:=by simp[fP]
 have hgl2:(fP b).length=b.length:=by simp[fP]
 obtain⟨⟨v1,n1⟩,r1⟩:=HU kin kput 21 a b G hla (by omega) (2000016,2000064);have hs1:(a.foldl (fun s m=>j8 s m.gid) []).length≤5:=by
  have:=uE a (fun s m=>j8 s m.gid) (fun i s=>s.length≤i) (fun i h s hs=>by have:=sg s a[i].gid;omega) [] (by simp);omega
 obtain⟨⟨v2,n2⟩,r2⟩:=HT kin kput 21 a b G hlb (by omega) (a.foldl (fun s m=>j8 s m.gid) []) hs1 (v1,n1+16);have hj:b.foldl (fun s m=>j8 s m.gid) (a.foldl (fun s m=>j8 s m.gid) [])=aV (fP a) (fP b):=by
  rw[xn,xn,aV,List.foldl_append]
 rw[hj] at r2;have hgs:(aV (fP a) (fP b)).length≤10:=by
  have:=ke (fP a) (fP b);omega
 have hmem:∀g∈aV (fP a) (fP b),g∈fP a∨g∈fP b:=fun g hg=>(iU _ _ _).1 hg
 unfold lJ;have hnm:∀x∈((aV (fP a) (fP b)).filter fun g=> !decide (g∈G)).map (my a b),x.name.length≤1048576∧x.gid≤9223372036854775807:=fun x hx=>by
  obtain⟨g,_,rfl⟩:=List.mem_map.1 hx;have:=AO ha hb g;omega
 have hfl:=bV (fun g=> !decide (g∈G)) (aV (fP a) (fP b));have eL:=wz a b G (aV (fP a) (fP b)) [];rw[List.nil_append] at eL;have hLl:(((aV (fP a) (fP b)).filter fun g=> !decide (g∈G)).map (my a b)).length≤10:=by simp;omega
 obtain⟨g3,hr3⟩:=jz (f:=cy (run M) 21 a7.l2) (aV (fP a) (fP b)) (yw a b G) (fun i s=>s.length≤i) (G6 a b G (aV (fP a) (fP b)) v2) 4 (MC a b G (aV (fP a) (fP b)) v2)
  (fun i h s hs=>by unfold yw;split<;>(try simp)<;>omega)
  (fun i hi s x hs=>HS K 21 a b ha hb G (aV (fP a) (fP b)) hG (by omega) hmem v2 i hi s hs x)
  (fun s x hs=>Kg 21 a b G (aV (fP a) (fP b)) v2 s x) [] (by simp)
 have r3:=gP (hr3 (n2+0,n2+48)) (show (aV (fP a) (fP b)).length+1≤21 by omega);rw[eL] at r3;generalize g3 (n2+0,n2+48)=y at*;obtain⟨v3,n3⟩:=y;generalize ((aV (fP a) (fP b)).filter fun g=> !decide (g∈G)).map (my a b)=L at*;obtain⟨n4,r4⟩:=HQ kname v3 L (by omega) hnm 21 (by omega) (n3+16);have el:((qf L).map af).length=L.length:=by simp[lz]
 have eg:=aI (aV (fP a) (fP b));have eg1:=aI (a.foldl (fun s m=>j8 s m.gid) []);have ez:((0:Nat):Int)=0:=rfl;simp only[K9,ME,ez,mU,eJ] at r1;simp only[K8,MD,ez] at r2;simp only[G6,MC,ez,bJ,eJ,Nat.add_zero] at r3;simp only[LJ,MB,ER,wF,yE,ez] at r4;clear hnm eL hj hmem hr3;generalize (qf L).map af=R4 at*;generalize L.map af=R3 at*;generalize L.length=N at*;generalize (aV (fP a) (fP b))=gj at*;generalize (a.foldl (fun s m=>j8 s m.gid) [])=ga at*;simp only[boxes,ints] at*;generalize ax gj=rgj at*;generalize ax ga=rga at*;generalize a.map af=ra at*;generalize b.map af=rb at*;generalize ax G=rg at*;simp (maxSteps:=9^9) [a8,a7.m,a7.b,aa,r1,r2,r3,r4,el,ab]
def j7(L:List bz)(i:Nat):List Int:=(L.take i).flatMap fun b=>eI b.ae
def nW(L:List bz)(i:Nat)(x:bz):bz:={x with ae:=x.ae.filter fun m=> !decide (m.gid∈j7 L i)}
def jB(L:List bz)(k:Nat):List bz:=L.mapIdx fun i x=>if i<k then nW L i x else x
def vR(L:List bz):List bz:=L.mapIdx fun i x=>nW L i x
theorem xB(L:List bz):jB L 0=L:=by unfold jB;simp[List.mapIdx_eq_iff]
theorem yU(L:List bz):jB L L.length=vR L:=by
 unfold jB vR;apply List.ext_getElem
 ·simp
 ·intro i h1 h2;simp at h1 ⊢;intro h;omega
theorem sm(L:List bz)(k:Nat):(jB L k).length=L.length:=by simp[jB]
theorem xD(L:List bz)(k:Nat)(h:k<L.length):(jB L k)[k]'(by rw[sm];exact h)=L[k]:=by simp[jB]
theorem xC(L:List bz)(k:Nat)(h:k<L.length):jB L (k+1)=(jB L k).set k (nW L k L[k]):=by
 unfold jB;apply List.ext_getElem
 ·simp
 ·intro i h1 h2;simp only[List.getElem_mapIdx,List.getElem_set];by_cases c:k=i
  ·subst c;simp
  ·rw[if_neg c];by_cases c2:i<k
   ·rw[if_pos c2,if_pos (by omega)]
   ·rw[if_neg c2,if_neg (by omega)]
theorem sY(L:List bz)(i:Nat)(h:i<L.length):j7 L (i+1)=j7 L i++eI L[i].ae:=by
 simp only[j7,il L i h,List.flatMap_append,cH,List.flatMap_nil,eM]
structure xY where
 u4:Nat
 u6:Nat
 w:Nat
 z:Nat
 eD:Int
 time:Int
 gone:List Int
 L:List bz
def De(c:xY):List T:=[I c.eD,I c.time,.row 13300 c.w 0 c.L.length,.row 11900 c.z 0 c.gone.length]
abbrev oz:List T:=[I 0,I 0,.aO 7,.aO 1]
structure MS where
 i:Nat
 v:Nat
 n:Nat
def Ea(c:xY)(i:Nat)(x:bz)(seen:List Int)(u9 v:Nat)(j:Nat)(left:List bp)(y:Nat×Nat):St:={t:=[(4,.c (.ptr 4 c.u4 0 0)),(6,.c (.ptr 6 c.u6 0 0)),(7,.c (.row 35 v 0 seen.length)),(8,.c (I i)),(9,.c (.ptr 9 u9 0 0)),(10,.c (.row 44 y.1 0 left.length)),(37,.c (.row 13300 c.w 0 c.L.length)),(38,.c (I c.L.length)),(39,.c (I i)),(46,.c (ae x.ae)),(47,.c (I x.ae.length)),(48,.c (I j))],o:=[(4,⟨c.u4,4,true,true,[oz]⟩),(6,⟨c.u6,4,true,true,[De c]⟩),(9,⟨u9,7,true,true,[af x]⟩),(35,⟨v,1,true,false,ax seen⟩),(44,⟨y.1,4,true,false,left.map ah⟩),(11900,⟨c.z,1,false,false,ax c.gone⟩),(13300,⟨c.w,7,true,false,(jB c.L i).map af⟩)],n:=y.2}
def H8(c:xY)(i:Nat)(x:bz)(seen:List Int)(u9 v:Nat)(left:List bp)(y:Nat×Nat):St:={t:=[(4,.c (.ptr 4 c.u4 0 0)),(6,.c (.ptr 6 c.u6 0 0)),(7,.c (.row 35 v 0 seen.length)),(8,.c (I i)),(9,.c (.ptr 9 u9 0 0)),(10,.c (.row 44 y.1 0 left.length)),(37,.c (.row 13300 c.w 0 c.L.length)),(38,.c (I c.L.length)),(39,.c (I i)),(46,.c (ae x.ae)),(47,.c (I x.ae.length)),(48,.c (I x.ae.length)),(49,.c (.bool false))],o:=[(4,⟨c.u4,4,true,true,[oz]⟩),(6,⟨c.u6,4,true,true,[De c]⟩),(9,⟨u9,7,true,true,[af x]⟩),(35,⟨v,1,true,false,ax seen⟩),(44,⟨y.1,4,true,false,left.map ah⟩),(11900,⟨c.z,1,false,false,ax c.gone⟩),(13300,⟨c.w,7,true,false,(jB c.L i).map af⟩)],n:=y.2}
theorem FP(kc:aL.k M)(k:Nat)(c:xY)(i:Nat)(x:bz)(seen:List Int)(hseen:seen.length≤4194304)(u9 v:Nat)(hx:x.ae.length≤1048576)(hk:x.ae.length<k)(y:Nat×Nat):
  ∃z,fi (cy (run M) k bE.l1) k (Ea c i x seen u9 v 0 [] y)=some (.exit 2,H8 c i x seen u9 v (x.ae.filter fun m=> !decide (m.gid∈seen)) z):=by
 obtain⟨g,hr⟩:=jz (f:=cy (run M) k bE.l1) x.ae (fun s m=>if(!decide (m.gid∈seen))=true then s++[m] else s) (fun i s=>s.length≤i) (Ea c i x seen u9 v) 2 (H8 c i x seen u9 v)
  (fun i h s hs=>by split<;>(try simp)<;>omega)
  (fun j hj s y hs=>by
   obtain⟨v4,n⟩:=y;have e5:=cz (i:=j) (by omega);have e6:s.length+1≤4294967296:=by omega
   have e9:(s.map ah).length=s.length:=by simp
   have er:(x.ae.map ah).length=x.ae.length:=by simp
   have h1:=aL.al kc seen x.ae[j].gid (by omega);have eg:=aI seen;have a1:∀hh,(x.ae.map ah)[j]'hh=ah x.ae[j]:=by intro hh;simp
   simp only[aH];by_cases q:x.ae[j].gid∈seen
   ·rw[decide_eq_true q] at h1;simp only[q,decide_true,Bool.not_true,ay,if_false,Ea,De];simp only[af,ae,ints,ah,jE] at a1 h1 ⊢;generalize x.ae.map ah=rx at*;generalize ax seen=rs at*;generalize (jB c.L i).map af=rd at*;generalize s.map ah=rl at*;generalize x.ae[j].flags.map aF=rf at*;simp (maxSteps:=9^9) [bE.l1,setAt,hj,h1,e5,er,eg,a1,ab]
   ·rw[decide_eq_false q] at h1;simp only[q,decide_false,Bool.not_false,if_true,Ea,De,cU,bB,bJ,aC,bU];simp only[af,ae,ints,ah,jE] at a1 h1 ⊢;generalize x.ae.map ah=rx at*;generalize ax seen=rs at*;generalize (jB c.L i).map af=rd at*;generalize s.map ah=rl at*;generalize x.ae[j].flags.map aF=rf at*;simp (maxSteps:=9^9) [bE.l1,setAt,hj,h1,e5,e6,e9,er,eg,a1,ab])
  (fun s y hs=>by
   obtain⟨v4,n⟩:=y;have er:(x.ae.map ah).length=x.ae.length:=by simp
   simp only[aH,Ea,H8,De,ae];generalize x.ae.map ah=rx at*;generalize ax seen=rs at*;generalize (jB c.L i).map af=rd at*;generalize s.map ah=rl at*;simp (maxSteps:=9^9) [bE.l1]) [] (by simp)
 rw[qw] at hr;exact⟨_,gP (hr y) (by omega)⟩
def FO(c:xY)(i:Nat)(xm:List bp)(left:List bp)(v4:Nat)(j:Nat)(seen:List Int)(y:Nat×Nat):St:={t:=[(4,.c (.ptr 4 c.u4 0 0)),(6,.c (.ptr 6 c.u6 0 0)),(7,.c (.row 35 y.1 0 seen.length)),(8,.c (I i)),(10,.c (.row 44 v4 0 left.length)),(37,.c (.row 13300 c.w 0 c.L.length)),(38,.c (I c.L.length)),(39,.c (I i)),(63,.c (ae xm)),(64,.c (I xm.length)),(65,.c (I j))],o:=[(4,⟨c.u4,4,true,true,[oz]⟩),(6,⟨c.u6,4,true,true,[De c]⟩),(35,⟨y.1,1,true,false,ax seen⟩),(44,⟨v4,4,true,false,left.map ah⟩),(11900,⟨c.z,1,false,false,ax c.gone⟩),(13300,⟨c.w,7,true,false,(jB c.L i).map af⟩)],n:=y.2}
def H7(c:xY)(i:Nat)(xm:List bp)(left:List bp)(v4:Nat)(seen:List Int)(y:Nat×Nat):St:={t:=[(4,.c (.ptr 4 c.u4 0 0)),(6,.c (.ptr 6 c.u6 0 0)),(7,.c (.row 35 y.1 0 seen.length)),(8,.c (I i)),(10,.c (.row 44 v4 0 left.length)),(37,.c (.row 13300 c.w 0 c.L.length)),(38,.c (I c.L.length)),(39,.c (I i)),(63,.c (ae xm)),(64,.c (I xm.length)),(65,.c (I xm.length)),(66,.c (.bool false))],o:=[(4,⟨c.u4,4,true,true,[oz]⟩),(6,⟨c.u6,4,true,true,[De c]⟩),(35,⟨y.1,1,true,false,ax seen⟩),(44,⟨v4,4,true,false,left.map ah⟩),(11900,⟨c.z,1,false,false,ax c.gone⟩),(13300,⟨c.w,7,true,false,(jB c.L i).map af⟩)],n:=y.2}
theorem DY(l:List bp)(s:List Int):l.foldl (fun s m=>s++[m.gid]) s=s++eI l:=by
 induction l generalizing s with
 |nil=>simp[eI]
 |cons a l ih=>rw[ff,ih];simp[eI]
theorem FN(k:Nat)(c:xY)(i:Nat)(xm left:List bp)(v4:Nat)(seen:List Int)(hseen:seen.length≤4194304)(hx:xm.length≤1048576)(hk:xm.length<k)(y:Nat×Nat):
  ∃z,fi (cy (run M) k bE.l2) k (FO c i xm left v4 0 seen y)=some (.exit 4,H7 c i xm left v4 (seen++eI xm) z):=by
 obtain⟨g,hr⟩:=jz (f:=cy (run M) k bE.l2) xm (fun s m=>s++[m.gid]) (fun i s=>s.length≤4194304+i) (FO c i xm left v4) 4 (H7 c i xm left v4)
  (fun i h s hs=>by simp;omega)
  (fun j hj s y hs=>by
   obtain⟨v,n⟩:=y;have e5:=cz (i:=j) (by omega);have e6:s.length+1≤4294967296:=by omega
   have e9:=aI s;have er:(xm.map ah).length=xm.length:=by simp
   have a1:∀hh,(xm.map ah)[j]'hh=ah xm[j]:=by intro hh;simp
   simp only[aH,FO,De,nK,aC,bU];simp only[ae,ah,jE] at a1 ⊢;generalize xm.map ah=rx at*;generalize ax s=rs at*;generalize (jB c.L i).map af=rd at*;generalize left.map ah=rl at*;generalize xm[j].flags.map aF=rf at*;simp (maxSteps:=9^9) [bE.l2,setAt,hj,e5,e6,e9,er,a1,ab])
  (fun s y hs=>by
   obtain⟨v,n⟩:=y;have er:(xm.map ah).length=xm.length:=by simp
   simp only[aH,FO,H7,De,ae];generalize xm.map ah=rx at*;generalize ax s=rs at*;generalize (jB c.L i).map af=rd at*;generalize left.map ah=rl at*;simp (maxSteps:=9^9) [bE.l2]) seen (by omega)
 rw[DY] at hr;exact⟨_,gP (hr y) (by omega)⟩
def AL(c:xY)(s:MS):St:={t:=[(4,.c (.ptr 4 c.u4 0 0)),(6,.c (.ptr 6 c.u6 0 0)),(7,.c (.row 35 s.v 0 (j7 c.L s.i).length)),(37,.c (.row 13300 c.w 0 c.L.length)),(38,.c (I c.L.length)),(39,.c (I s.i))],o:=[(4,⟨c.u4,4,true,true,[oz]⟩),(6,⟨c.u6,4,true,true,[De c]⟩),(35,⟨s.v,1,true,false,ax (j7 c.L s.i)⟩),(11900,⟨c.z,1,false,false,ax c.gone⟩),(13300,⟨c.w,7,true,false,(jB c.L s.i).map af⟩)],n:=s.n}
def FT(c:xY)(s:MS):St:={t:=[(4,.c (.ptr 4 c.u4 0 0)),(6,.c (.ptr 6 c.u6 0 0)),(7,.c (.row 35 s.v 0 (j7 c.L s.i).length)),(37,.c (.row 13300 c.w 0 c.L.length)),(38,.c (I c.L.length)),(39,.c (I s.i)),(40,.c (.bool false))],o:=[(4,⟨c.u4,4,true,true,[oz]⟩),(6,⟨c.u6,4,true,true,[De c]⟩),(35,⟨s.v,1,true,false,ax (j7 c.L s.i)⟩),(11900,⟨c.z,1,false,false,ax c.gone⟩),(13300,⟨c.w,7,true,false,(jB c.L s.i).map af⟩)],n:=s.n}
theorem yB(L:List bz)(h:∀b∈L,b.ae.length≤100):∀i,(j7 L i).length≤100*i
 |0=>by simp[j7]
 |i+1=>by
  have ih:=yB L h i;by_cases c:i<L.length
  ·rw[sY L i c];have:=h _ (ar c);simp only[aC,eI,gD];omega
  ·have:j7 L (i+1)=j7 L i:=by
    simp only[j7];rw[ab (by omega),ab (by omega)]
   rw[this];omega
theorem FQ(kc:aL.k M)(k:Nat)(hk:200≤k)(c:xY)(hL:c.L.length≤1000)(hb:∀b∈c.L,b.ae.length≤100)(s:MS)(hs:s.i<c.L.length):
  ∃v' n',cy (run M) k bE.l0 (AL c s)=some (.normal,AL c ⟨s.i+1,v',n'⟩):=by
 obtain⟨i,v,n⟩:=s;simp only at hs;have hx:=hb _ (ar hs);have hsl:=yB c.L hb i;obtain⟨⟨v4,n4⟩,r1⟩:=FP kc k c i c.L[i] (j7 c.L i) (by omega) (n+64) v (by omega) (by omega) (n+112,n+208);obtain⟨⟨v5,n5⟩,r2⟩:=FN (M:=M) k c i c.L[i].ae (c.L[i].ae.filter fun m=> !decide (m.gid∈j7 c.L i)) v4 (j7 c.L i) (by omega) (by omega) (by omega) (v,n4+64);rw[←sY c.L i hs] at r2;have e5:=cz (i:=i) (by omega);have ez:((0:Nat):Int)=0:=rfl;have el:((jB c.L i).map af).length=c.L.length:=by simp[sm]
 have a1:∀hh,((jB c.L i).map af)[i]'hh=af c.L[i]:=by
  intro hh;simp only[fb,xD c.L i hs]
 have t3:(jB c.L (i+1)).map af=((jB c.L i).map af).set i (af (nW c.L i c.L[i])):=by rw[xC c.L i hs,fR]
 have efl:((c.L[i].ae.filter fun m=> !decide (m.gid∈j7 c.L i)).map ah).length=(c.L[i].ae.filter fun m=> !decide (m.gid∈j7 c.L i)).length:=by simp
 have er:(c.L[i].ae.map ah).length=c.L[i].ae.length:=by simp
 simp only[Ea,H8,ez,bJ,eJ] at r1;simp only[FO,H7,ez] at r2;simp only[AL,t3];clear t3;simp only[nW,af,ae,ints,De] at r1 r2 a1 ⊢;generalize (c.L[i].ae.filter fun m=> !decide (m.gid∈j7 c.L i)).map ah=rl at*;generalize (c.L[i].ae.filter fun m=> !decide (m.gid∈j7 c.L i)).length=nl at*;generalize ax (j7 c.L (i+1))=rs1 at*;generalize (j7 c.L (i+1)).length=ns1 at*;generalize ax (j7 c.L i)=rs at*;generalize (j7 c.L i).length=ns at*;generalize (jB c.L i).map af=rd at*;generalize c.L[i]=x at*;generalize c.L.length=N at*;generalize x.ae.map ah=rx at*;generalize ax x.gone=rg at*;generalize ax c.gone=rcg at*;simp (maxSteps:=9^9) [bE.l0,setAt,hs,r1,r2,e5,el,a1,efl,er,ab]
theorem H9(k:Nat)(c:xY)(s:MS)(hs:¬s.i<c.L.length):
  ∃n',cy (run M) k bE.l0 (AL c s)=some (.exit 0,FT c ⟨s.i,s.v,n'⟩):=by
 obtain⟨i,v,n⟩:=s;simp only at hs;simp only[AL,FT,De];generalize (jB c.L i).map af=rd at*;simp (maxSteps:=9^9) [bE.l0,hs]
def dB(a b:aW):aW:={eD:=a.eD,time:=Max.max a.time b.time,boxes:=vR (lf a.boxes b.boxes (aV a.gone b.gone)),gone:=aV a.gone b.gone}
theorem FR(kc:aL.k M)(k:Nat)(hk:1200≤k)(c:xY)(hL:c.L.length≤1000)(hb:∀b∈c.L,b.ae.length≤100)(v n:Nat):
  ∃v' n',fi (cy (run M) k bE.l0) k (AL c ⟨0,v,n⟩)=some (.exit 0,FT c ⟨c.L.length,v',n'⟩):=by
 obtain⟨r,hr,⟨⟨i,v',n'⟩,rfl,hi⟩⟩:=kC (f:=cy (run M) k bE.l0) (AL c) (fun s=>s.i≤c.L.length) (fun s=>c.L.length-s.i) (fun r=>∃s',r=(.exit 0,FT c s')∧s'.i=c.L.length)
  (fun s hs=>by
   by_cases q:s.i<c.L.length
   ·left;obtain⟨v',n',hh⟩:=FQ kc k (by omega) c hL hb s q;exact⟨_,hh,by simp only;omega,by simp only;omega⟩
   ·right;obtain⟨n',hh⟩:=H9 (M:=M) k c s q;exact⟨_,hh,by simp,_,rfl,by simp only;omega⟩) k ⟨0,v,n⟩ (by simp) (by simp only;omega)
 simp only at hi;subst hi;exact⟨v',n',hr⟩
theorem C5:∀(l acc:List bz) (x:bz),x∈l.foldl oO acc→x∈acc∨∃y∈l,x.gid=y.gid∧x.ae=y.ae∧x.gone=y.gone∧(x.name=y.name∨x.name=kX y.name y.gid)
 |[],acc,x,h=> .inl h
 |y::l,acc,x,h=>by
  rw[ff] at h;rcases C5 l _ x h with q|⟨z,hz,q⟩
  ·rw[qt] at q;rcases List.mem_append.1 q with q|q
   ·exact .inl q
   ·simp only[fy] at q;subst q;right;refine⟨y,bh .., ?_⟩;unfold pF;split
    ·exact⟨rfl,rfl,rfl,.inr rfl⟩
    ·exact⟨rfl,rfl,rfl,.inl rfl⟩
  ·exact .inr ⟨z,bq _ hz,q⟩
theorem ya(s:List UInt8)(g:Int):(kX s g).length≤12:=by
 unfold kX;split
 ·simp;omega
 ·simp;omega
structure Small (x:bz):Prop where
 m:x.ae.length≤20
 g:x.gone.length≤80
 n:x.name.length≤12
 f:∀m∈x.ae,m.flags.length≤1048576
 d:(eI x.ae).Nodup
theorem Good.small{b:bz}(h:Good b):Small b:=⟨by have:=h.len;omega,by have:=h.nL;omega,(mi h.name).2,h.tM.f,h.nd⟩
theorem ye{a b:bz}(ha:Good a)(hb:Good b):Small (ig a b):=by
 have H:=ha.AM hb;have J:=Bl ha hb;refine⟨?_, ?_, ?_,(sZ H).f,J.na⟩
 ·have:=J.all;rw[y8] at this;exact this
 ·unfold ig;split
  ·have:=ke a.gone b.gone;have:=ha.nL;have:=hb.nL;simp only;omega
  ·have:=ha.nL;omega
 ·rcases qC a b with q|q<;>rw[q]
  ·exact(mi ha.name).2
  ·exact(mi hb.name).2
theorem CL{a b:List bz}(ha:mC a)(hb:mC b)(x:bz)(h:x∈oE a b):Small x:=by
 rcases Bi x h with q|q|⟨y,hy,z,hz,_,rfl⟩
 ·exact(ha.j2 x q).small
 ·exact(hb.j2 x q).small
 ·exact ye (ha.j2 y hy) (hb.j2 z hz)
theorem lZ{a b:List bz}(ha:mC a)(hb:mC b)(G:List Int)(x:bz)(h:x∈lf a b G):Small x:=by
 rcases C5 _ _ x h with q|⟨y,hy,q1,q2,q3,q4⟩
 ·simp at q
 ·have S:=CL ha hb y (List.mem_filter.1 (qn.1 hy)).1;refine⟨by rw[q2];exact S.m,by rw[q3];exact S.g, ?_,by rw[q2];exact S.f,by rw[q2];exact S.d⟩;rcases q4 with q|q<;>rw[q]
  ·exact S.n
  ·exact ya _ _
theorem pe{a b:List bz}(ha:mC a)(hb:mC b)(G:List Int):(lf a b G).length≤10:=by
 unfold lf;rw[lz,iR];have h1:=bV (fun x:bz=> !decide (x.gid∈G)) (oE a b);have h2:=Bj a b;have:=ha.len;have:=hb.len;omega
theorem Gk(L:List bz)(h:∀x∈L,Small x):∀x∈vR L,iw x:=by
 intro x hx;obtain⟨i,hi,rfl⟩:=bF hx;simp only[vR,List.length_mapIdx] at hi;simp only[vR,List.getElem_mapIdx,nW];have S:=h _ (ar hi);have hl:=bV (fun m:bp=> !decide (m.gid∈j7 L i)) L[i].ae;refine⟨by have:=S.m;simp only;omega,by have:=S.g;simp only;omega,by have:=S.n;simp only;omega,fun m hm=>S.f m (List.mem_filter.1 hm).1⟩
structure mH (s:aW):Prop where
 boxes:mC s.boxes
 gone:s.gone.length≤20
 JE:s.boxes.Pairwise fun x y=>x.gid<y.gid
theorem eT{s:aW}(h:bu s=true):mH s:=by
 simp only[bu,ak,decide_eq_true_eq,b9,iN] at h;obtain⟨⟨⟨⟨_,_⟩,h3⟩,h4⟩,h5⟩:=h;have hg:=(pf.1 h4).2.2;have hbad:∀i (hi:i<s.boxes.length),fQ s.boxes[i]=true∧∀(q:0<i),(s.boxes[i-1]'(by omega)).gid<s.boxes[i].gid:=fun i hi=>by
  have:=h5 i hi;rw[nZ hi,ot hi] at this;simp at this;exact⟨this.1.1.1.1.1,this.1.1.1.1.2⟩
 refine⟨⟨h3,fun b hb=> ?_⟩,by omega, ?_⟩
 ·obtain⟨i,hi,rfl⟩:=bF hb;exact o8.1 (hbad i hi).1
 ·have hA:ym (s.boxes.map (·.gid)):=wy fun j hj=>by
   simp only[gD] at hj;have:=(hbad (j+1) hj).2 (by omega);simpa using this
  exact List.pairwise_map.1 hA
theorem bE.al(h:bE.k M)(a b:aW)(ha:mH a)(hb:mH b):
  run M 447 [.a (ai a),.a (ai b)] []=some (.a [I a.eD,I (Max.max a.time b.time),.sl true 7 ((dB a b).boxes.map af),.sl false 1 (ax (dB a b).gone)],[]):=by
 obtain⟨h0,kg,kc,kb⟩:=h;have hga:=ha.gone;have hgb:=hb.gone;have hgj:=ke a.gone b.gone;have h1:=fI.al kg a.gone b.gone (by omega) (by omega);have h2:=bA.al kb a.boxes b.boxes (aV a.gone b.gone) ha.boxes hb.boxes (by omega);have hLl:=pe ha.boxes hb.boxes (aV a.gone b.gone);have hLs:=lZ ha.boxes hb.boxes (aV a.gone b.gone);simp only[dB];have eg:=aI (aV a.gone b.gone);generalize aV a.gone b.gone=G at*;generalize lf a.boxes b.boxes G=L at*;obtain⟨v1,n1,r1⟩:=FR kc 1200 (by omega) ⟨2000032,2000384,2000352,2000112,a.eD,Max.max a.time b.time,G,L⟩ (by simp only;omega) (fun x hx=>by have:=(hLs x hx).m;omega) 2000416 2000512;refine ao (b:=bE.m) h0 ⟨1200, ?_⟩;have el:(L.map af).length=L.length:=by simp
 have el2:((vR L).map af).length=L.length:=by simp[vR]
 have ez:((0:Nat):Int)=0:=rfl;have es:j7 L 0=[]:=by simp[j7]
 have em:=zC a.time b.time;simp only[AL,FT,De,xB,yU,ez,es,mU,eJ] at r1;generalize hmx:Max.max a.time b.time=mx at*;clear hmx hLs;generalize (vR L).map af=RD at*;generalize L.map af=RL at*;generalize L.length=N at*;generalize ax (j7 L N)=rs at*;simp only[ai,boxes,ints] at*;generalize ax G=rg at*;generalize G.length=ng at*;generalize a.boxes.map af=ra at*;generalize b.boxes.map af=rb at*;generalize ax a.gone=ga at*;generalize ax b.gone=gb at*;by_cases c:a.time<b.time
 ·rw[if_pos c] at em;subst em;simp (maxSteps:=9^9) [a8,bE.m,bE.b,aa,setAt,h1,h2,r1,c,el,el2,eg,ab]
 ·rw[if_neg c] at em;subst em;simp (maxSteps:=9^9) [a8,bE.m,bE.b,aa,setAt,h1,h2,r1,c,el,el2,eg,ab]
def K6(s:aW)(g:Int)(i:Nat)(x:Nat):St:={t:=[(1,.c (I g)),(2,.c (.ptr 2 2000000 0 0)),(5,.c (I i))],o:=[(2,⟨2000000,4,true,true,[ai s]⟩)],n:=x}
theorem dA.al(h:dA.k M)(s:aW)(g:Int)(hl:s.boxes.length≤1048576):run M 196 [.a (ai s),.c (I g)] []=some (.c (I (dN (me s.boxes g))),[]):=by
 refine ao (b:=dA.m) h ⟨s.boxes.length+1, ?_⟩;have er:(s.boxes.map af).length=s.boxes.length:=by simp
 obtain⟨g',hr⟩:=mW (f:=cy (run M) (s.boxes.length+1) dA.l0) s.boxes.length (tC (fun b:bz=>decide (b.gid=g)) s.boxes) (K6 s g) jU po
  (fun i hi x c=>by
   rw[jO _ _ _ hi] at c;simp only[decide_eq_false_iff_not] at c;have e5:=cz (i:=i) (by omega);have a1:∀hh,(s.boxes.map af)[i]'hh=af s.boxes[i]:=by intro hh;simp
   simp only[K6,ai,boxes,ints];simp only[af] at a1;generalize s.boxes.map af=rb at*;simp (maxSteps:=9^9) [dA.l0,hi,c,e5,er,a1])
  (fun i hi x c=>by
   rw[jO _ _ _ hi] at c;simp only[decide_eq_true_eq] at c;have a1:∀hh,(s.boxes.map af)[i]'hh=af s.boxes[i]:=by intro hh;simp
   simp only[K6,ai,boxes,ints];simp only[af] at a1;generalize s.boxes.map af=rb at*;simp (maxSteps:=9^9) [dA.l0,hi,c,er,a1,jU];exact⟨⟨[],[],_⟩,rfl⟩)
  (fun x=>by
   simp only[K6,ai,boxes,ints];generalize s.boxes.map af=rb at*;simp (maxSteps:=9^9) [dA.l0,er,jU])
 unfold me;cases hm:eE (tC (fun b:bz=>decide (b.gid=g)) s.boxes) s.boxes.length with
 |none=>
  simp[K6,hm,jU] at hr;simp only[ai,boxes,ints] at*;simp (maxSteps:=9^9) [a8,dA.m,dA.b,aa,hr,dN]
 |some k=>
  simp[K6,hm,jU] at hr;simp only[ai,boxes,ints] at*;simp (maxSteps:=9^9) [a8,dA.m,dA.b,aa,hr,dN]
theorem dV.al(h:dV.k M)(s:aW)(hs: -1000000000≤s.time∧s.time≤1000000000):run M 301 [.a (ai s)] []=some (.a [I (s.time+1),I s.eD],[]):=by
 refine ao (b:=dV.m) h ⟨0, ?_⟩;have e5:IntKind.i64.wrap (s.time+1)=s.time+1:=wrap_i64 (by omega) (by omega);simp only[ai,boxes,ints];simp (maxSteps:=9^9) [a8,dV.m,dV.b,aa,setAt,e5]
def LH(s:aW)(i v:Nat):List (Nat×Ob):=[(1,⟨2000000,4,true,true,[ai s]⟩),(2,⟨2000016,4,true,true,[oz]⟩),(3,⟨2000048,4,true,true,[[I s.eD,I s.time,.row 6 v 0 i,ints s.gone]]⟩),(6,⟨v,7,true,false,(s.boxes.take i).map af⟩)]
def Mw(s:aW)(i:Nat)(x:Nat×Nat):St:={t:=[(1,.c (.ptr 1 2000000 0 0)),(2,.c (.ptr 2 2000016 0 0)),(3,.c (.ptr 3 2000048 0 0)),(4,.c (I i))],o:=LH s i x.1,n:=x.2}
def Nc(s:aW)(x:Nat×Nat):St:={t:=[(1,.c (.ptr 1 2000000 0 0)),(2,.c (.ptr 2 2000016 0 0)),(3,.c (.ptr 3 2000048 0 0)),(4,.c (I s.boxes.length)),(12,.c (.bool false))],o:=LH s s.boxes.length x.1,n:=x.2}
theorem cd.al(h:cd.k M)(s:aW)(hs:iI s):run M 219 [.a (ai s)] []=some (.a (aS s),[]):=by
 obtain⟨h0,k1⟩:=h;have hbl:=hs.b;have hgl:=hs.g;refine ao (b:=cd.m) h0 ⟨s.boxes.length+1, ?_⟩;have er:(s.boxes.map af).length=s.boxes.length:=by simp
 obtain⟨g,hr⟩:=lh (f:=cy (run M) (s.boxes.length+1) cd.l0) s.boxes.length (Mw s) 0 (Nc s)
  (fun i hi x=>by
   obtain⟨v,n⟩:=x;have h2:=b5.al k1 s.boxes[i] (hs.i _ (ar hi));have e5:=cz (i:=i) (by omega);have e6:i+1≤4294967296:=by omega
   have e7:((s.boxes.take i).map af).length=i:=by simp;omega
   have e8:((s.boxes.take (i+1)).map af)=(s.boxes.take i).map af++[af s.boxes[i]]:=by rw[il _ _ hi,cU];rfl
   have a1:∀hh,(s.boxes.map af)[i]'hh=af s.boxes[i]:=by intro hh;simp
   simp only[aH,Mw,LH,e8,ai,boxes,ints];simp only[af,bM,ae,ints] at h2 a1 ⊢;generalize (s.boxes.take i).map af=rr at*;generalize s.boxes.map af=rb at*;generalize s.boxes[i].ae.map ah=rm at*;generalize ax s.boxes[i].gone=rg at*;generalize ax s.gone=rs at*;simp (maxSteps:=9^9) [cd.l0,aa,setAt,hi,h2,e5,e6,e7,er,a1,ab])
  (fun x=>by
   obtain⟨v,n⟩:=x;simp only[aH,Mw,Nc,LH,ai,boxes,ints];generalize (s.boxes.take s.boxes.length).map af=rr at*;generalize s.boxes.map af=rb at*;generalize ax s.gone=rs at*;simp (maxSteps:=9^9) [cd.l0,aa,er])
 have hr0:=hr (2000080,2000144);generalize g (2000080,2000144)=y at*;obtain⟨v,n⟩:=y;have ez:((0:Nat):Int)=0:=rfl;have eg:=aI s.gone;have e9:s.gone.length≤4294967296:=by omega
 simp only[Mw,Nc,LH,ez,List.take_zero,bJ,List.take_length,ai,boxes,ints] at hr0;simp only[ai,aS,boxes,ints];generalize s.boxes.map af=rb at*;generalize ax s.gone=rs at*;simp (maxSteps:=9^9) [a8,cd.m,cd.b,aa,setAt,hr0,er,eg,e9,ab]
def oG(b:bz)(g:Int):Bool:=(gh b.ae g).isSome||decide (g∈b.gone)
def pV(s:aW)(g:Int):Bool:=(me s.boxes g).isSome||decide (g∈s.gone)||s.boxes.any fun b=>oG b g
def K5(s:aW)(g:Int)(i:Nat)(x:Nat):St:={t:=[(1,.c (I g)),(2,.c (.ptr 2 2000000 0 0)),(5,.c (I i))],o:=[(2,⟨2000000,4,true,true,[ai s]⟩)],n:=x}
def Nb(s:aW)(g:Int)(x:Nat):St:={t:=[(1,.c (I g)),(2,.c (.ptr 2 2000000 0 0)),(5,.c (I s.boxes.length)),(20,.c (.bool false))],o:=[(2,⟨2000000,4,true,true,[ai s]⟩)],n:=x}
theorem tc(p:bz→Bool)(l:List bz):l.any p=(eE (tC p l) l.length).isSome:=by
 cases q:eE (tC p l) l.length with
 |none=>
  have hn:=mg q;have:l.any p=false:=by
   rw[List.any_eq_false];intro b hb;obtain⟨j,hj,rfl⟩:=bF hb;have:=hn j hj;rw[jO _ _ _ hj] at this;simp[this]
  rw[this];rfl
 |some k=>
  obtain⟨h1,h2,_⟩:=mf q;rw[jO _ _ _ h1] at h2;have:l.any p=true:=List.any_eq_true.2 ⟨_,ar h1,h2⟩;rw[this];rfl
theorem lE(q:Option Nat):decide ((0:Int)≤dN q)=q.isSome:=by
 cases q with
 |none=>rfl
 |some k=>exact decide_eq_true (Int.natCast_nonneg k)
theorem eX.al(h:eX.k M)(s:aW)(g:Int)(hs:iI s):run M 300 [.a (ai s),.c (I g)] []=some (.c (.bool (pV s g)),[]):=by
 obtain⟨h0,ka,ki,kb⟩:=h;have hbl:=hs.b;have hgl:=hs.g;have h1:=dA.al kb s g hbl;have h2:=bl.al ki s.gone g (by omega);refine ao (b:=eX.m) h0 ⟨s.boxes.length+1, ?_⟩;have er:(s.boxes.map af).length=s.boxes.length:=by simp
 obtain⟨g',hr⟩:=iE (f:=cy (run M) (s.boxes.length+1) eX.l0) s.boxes.length (tC (fun b=>oG b g) s.boxes) (K5 s g) 4 (.bool true) 0 (Nb s g)
  (fun i hi x c=>by
   rw[jO _ _ _ hi] at c;have hb:=hs.i _ (ar hi);have h3:=bP.al ka s.boxes[i] g hb.m;have h4:=bl.al ki s.boxes[i].gone g (by have:=hb.g;omega);have e5:=cz (i:=i) (by omega);have a1:∀hh,(s.boxes.map af)[i]'hh=af s.boxes[i]:=by intro hh;simp
   unfold oG at c;simp only[fc] at c;obtain⟨c1,c2⟩:=c;rw[c2] at h4;have c3:¬(0:Int)≤dN (gh s.boxes[i].ae g):=by
    have:=lE (gh s.boxes[i].ae g);rw[c1] at this;simpa using this
   simp only[K5,ai,boxes,ints];simp only[af,ae,ints] at h3 h4 a1;generalize dN (gh s.boxes[i].ae g)=z at*;generalize s.boxes.map af=rb at*;generalize s.boxes[i].ae.map ah=rm at*;generalize ax s.boxes[i].gone=rg at*;simp (maxSteps:=9^9) [eX.l0,hi,h3,h4,c3,e5,er,a1,ab])
  (fun i hi x c=>by
   rw[jO _ _ _ hi] at c;have hb:=hs.i _ (ar hi);have h3:=bP.al ka s.boxes[i] g hb.m;have h4:=bl.al ki s.boxes[i].gone g (by have:=hb.g;omega);have a1:∀hh,(s.boxes.map af)[i]'hh=af s.boxes[i]:=by intro hh;simp
   unfold oG at c;have c3:=lE (gh s.boxes[i].ae g);simp only[K5,ai,boxes,ints];simp only[af,ae,ints] at h3 h4 a1;generalize dN (gh s.boxes[i].ae g)=z at*;generalize (gh s.boxes[i].ae g).isSome=w at*;generalize decide (g∈s.boxes[i].gone)=w2 at*;generalize s.boxes.map af=rb at*;generalize s.boxes[i].ae.map ah=rm at*;generalize ax s.boxes[i].gone=rg at*;cases w
   ·simp only[decide_eq_false_iff_not] at c3;simp only[Bool.false_or] at c;subst c;simp (maxSteps:=9^9) [eX.l0,hi,h3,h4,c3,er,a1,ab]
   ·simp only[decide_eq_true_eq] at c3;simp (maxSteps:=9^9) [eX.l0,hi,h3,c3,er,a1,ab])
  (fun x=>by
   simp only[K5,Nb,ai,boxes,ints];generalize s.boxes.map af=rb at*;simp (maxSteps:=9^9) [eX.l0,er])
 have hany:=tc (fun b=>oG b g) s.boxes;have c0:=lE (me s.boxes g);unfold pV;rw[hany];generalize (me s.boxes g).isSome=w1 at*;generalize dN (me s.boxes g)=z at*;generalize decide (g∈s.gone)=w2 at*;have ez:((0:Nat):Int)=0:=rfl;cases w1
 ·simp only[decide_eq_false_iff_not] at c0;cases w2
  ·cases hq:eE (tC (fun b=>oG b g) s.boxes) s.boxes.length with
   |none=>
    simp only[K5,Nb,hq,lv,ez] at hr;simp only[ai,boxes,ints] at*;simp (maxSteps:=9^9) [a8,eX.m,eX.b,aa,h1,h2,c0,hr,ab]
   |some q=>
    simp only[K5,hq,lv,ez] at hr;simp only[ai,boxes,ints] at*;simp (maxSteps:=9^9) [a8,eX.m,eX.b,aa,h1,h2,c0,hr,ab]
  ·simp only[ai,boxes,ints] at*;simp (maxSteps:=9^9) [a8,eX.m,eX.b,aa,h1,h2,c0,ab]
 ·simp only[decide_eq_true_eq] at c0;simp only[ai,boxes,ints] at*;simp (maxSteps:=9^9) [a8,eX.m,eX.b,aa,h1,c0,ab]
theorem xT{b:bz}(hb:iw b)(g f:Int)(x:List UInt8)(t w:Int):iw (kF b g f x t w).1:=by
 unfold kF;split
 ·rename_i c;exact(o8.1 c.2.2.2.2).tM
 ·exact hb
theorem vq{b:bz}(hb:iw b)(g n t w:Int):iw (jJ b g n t w).1:=by
 unfold jJ;split
 ·exact hb
 ·split
  ·exact hb
  ·rename_i k hk m hm;split
   ·refine⟨by simpa using hb.m,hb.g,hb.n,fun m' hm'=> ?_⟩;obtain⟨j,hj,rfl⟩:=bF hm';simp only[List.getElem_set];split
    ·have e:(lU m.flags n t w).length=m.flags.length:=by unfold lU;split<;>simp
     simp only[e];exact hb.f m (iZ hm)
    ·exact hb.f _ (ar _)
   ·exact hb
def gS(s:aW)(i:Nat)(b:bz):aW:={s with boxes:=s.boxes.set i b,time:=s.time+1}
def stamped(s:aW)(i:Nat)(b:bz):aW×Bool:=if bu (gS s i b)=true then(gS s i b,true) else(s,false)
structure m7 (s:aW):Prop where
 kU:iI s
 time: -1000000000≤s.time∧s.time≤1000000000
theorem nO{s:aW}(hs:iI s){i:Nat}(hi:i<s.boxes.length){b:bz}(hb:iw b)(hm:(s.boxes.flatMap b_).length+b.ae.length≤1048576):iI (gS s i b):=by
 refine⟨by simpa [gS] using hs.b,hs.g,fun x hx=> ?_, ?_⟩
 ·rcases List.mem_or_eq_of_mem_set hx with q|q
  ·exact hs.i x q
  ·rw[q];exact hb
 ·have e:s.boxes.set i b=s.boxes.take i++b::s.boxes.drop (i+1):=List.set_eq_take_append_cons_drop.trans (by rw[if_pos hi]);simp only[gS];rw[e];have hsub:((s.boxes.take i).flatMap b_).length+((s.boxes.drop (i+1)).flatMap b_).length≤(s.boxes.flatMap b_).length:=by
   conv=>rhs;rw[←dm i s.boxes,bC hi]
   simp only[List.flatMap_append,cH,aC];omega
  simp only[List.flatMap_append,cH,aC,b_,gD] at hsub hm ⊢;omega
theorem eG.al(h:eG.k M)(s:aW)(hs:m7 s)(i:Nat)(hi:i<s.boxes.length)(b:bz)(hb:iw b)(hm:(s.boxes.flatMap b_).length+b.ae.length≤1048576):
  run M 302 [.a (ai s),.c (I i),.a (af b)] []=some (.lL [.a (aS (stamped s i b).1),.c (.bool (stamped s i b).2)],[]):=by
 obtain⟨h0,ko,kc⟩:=h;have ht:=hs.time;have h1:=cd.al kc s hs.kU;have h2:=aN.al ko (gS s i b) (nO hs.kU hi hb hm);refine ao (b:=eG.m) h0 ⟨0, ?_⟩;have e5:IntKind.i64.wrap (s.time+1)=s.time+1:=wrap_i64 (by omega) (by omega);have er:(s.boxes.map af).length=s.boxes.length:=by simp
 have eg:=aI s.gone;have es:(gS s i b).boxes.map af=(s.boxes.map af).set i (af b):=by simp only[gS,fR]
 have ew:(gS s i b).eD=s.eD:=rfl;have et:(gS s i b).time=s.time+1:=rfl;have egn:(gS s i b).gone=s.gone:=rfl;have a1:∀hh,(s.boxes.map af)[i]'hh=af s.boxes[i]:=by intro hh;simp
 unfold stamped;cases c:bu (gS s i b) with
 |true=>
  rw[c] at h2;rw[if_pos rfl];simp only[ai,aS,boxes,ints,es,ew,et,egn] at h1 h2 ⊢;clear es c;simp only[af,ae,ints] at h2 a1 ⊢;generalize s.boxes.map af=rb at*;generalize ax s.gone=rs at*;generalize s.boxes[i].ae.map ah=r1 at*;generalize ax s.boxes[i].gone=r2 at*;generalize b.ae.map ah=r3 at*;generalize ax b.gone=r4 at*;simp (maxSteps:=9^9) [a8,eG.m,eG.b,aa,setAt,hi,h1,h2,e5,er,eg,a1,ab]
 |false=>
  rw[c] at h2;rw[if_neg (by decide)];simp only[ai,aS,boxes,ints,es,ew,et,egn] at h1 h2 ⊢;clear es c;simp only[af,ae,ints] at h2 a1 ⊢;generalize s.boxes.map af=rb at*;generalize ax s.gone=rs at*;generalize s.boxes[i].ae.map ah=r1 at*;generalize ax s.boxes[i].gone=r2 at*;generalize b.ae.map ah=r3 at*;generalize ax b.gone=r4 at*;simp (maxSteps:=9^9) [a8,eG.m,eG.b,aa,setAt,hi,h1,h2,e5,er,eg,a1,ab]
def at_(s:aW)(g:Int)(f:Nat→bz→aW×Bool):aW×Bool:=match me s.boxes g with
 |none=>(s,false)
 |some i=>match s.boxes[i]? with
  |none=>(s,false)
  |some b=>f i b
theorem lQ{s:aW}{g:Int}{f:Nat→bz→aW×Bool}(h:me s.boxes g=none):at_ s g f=(s,false):=by simp only[at_,h]
theorem lP{s:aW}{g:Int}{f:Nat→bz→aW×Bool}{i:Nat}(h:me s.boxes g=some i)(hi:i<s.boxes.length):at_ s g f=f i s.boxes[i]:=by simp only[at_,h,bW hi]
def lM(s:aW)(g m f:Int)(x:List UInt8):aW×Bool:=if bu s=true∧pV s m=false then at_ s g fun i b=>if(kF b m f x (s.time+1) s.eD).2=true then stamped s i (kF b m f x (s.time+1) s.eD).1 else(s,false) else(s,false)
def kM(s:aW)(g m f:Int):aW×Bool:=if bu s=true then at_ s g fun i b=>if(jJ b m f (s.time+1) s.eD).2=true then stamped s i (jJ b m f (s.time+1) s.eD).1 else(s,false) else(s,false)
def kN(s:aW)(g m:Int):aW×Bool:=if bu s=true then at_ s g fun i b=>if(jY b m).2=true then({s with boxes:=s.boxes.set i (jY b m).1},true) else(s,false) else(s,false)
theorem om{s:aW}(h:bu s=true):(s.boxes.flatMap b_).length≤50:=by
 have G:=(eT h).boxes;have key:∀l:List bz,(∀x∈l,x.ae.length≤10)→(l.flatMap b_).length≤10*l.length:=by
  intro l
  induction l with
  |nil=>intro _;simp
  |cons x l ih=>
   intro h;have h1:=ih fun y hy=>h y (bq _ hy)
   have h2:=h x (bh ..);simp only[cH,aC,b_,gD,bT] at h1 ⊢;omega
 have:=key s.boxes fun x hx=>(G.j2 x hx).len
 have:=G.len;omega
theorem sQ{b:bz}(hb:Good b)(g f:Int)(x:List UInt8)(t w:Int):(kF b g f x t w).1.ae.length≤11:=by
 unfold kF;split
 ·rename_i c;exact Nat.le_trans (o8.1 c.2.2.2.2).len (by omega)
 ·have:=hb.len;simp only;omega
theorem rI{b:bz}(hb:Good b)(g n t w:Int):(jJ b g n t w).1.ae.length≤11:=by
 have:=hb.len;unfold jJ;split
 ·simp only;omega
 ·split
  ·simp only;omega
  ·split
   ·simp only[List.length_set];omega
   ·simp only;omega
theorem dI.al(h:dI.k M)(s:aW)(hs:m7 s)(g m f:Int)(x:List UInt8):
  run M 279 [.a (ai s),.c (I g),.c (I m),.c (I f),.c (S x)] []=some (.lL [.a (aS (lM s g m f x).1),.c (.bool (lM s g m f x).2)],[]):=by
 obtain⟨h0,ka,ko,kb,kc,kk,kn,kst⟩:=h;have h1:=dA.al kb s g hs.kU.b;have h2:=aN.al ko s hs.kU;have h3:=eX.al kk s m hs.kU;have h4:=cd.al kc s hs.kU;have h5:=dV.al kn s hs.time;have er:(s.boxes.map af).length=s.boxes.length:=by simp
 have eg:=aI s.gone;refine ao (b:=dI.m) h0 ⟨0, ?_⟩;unfold lM;cases c1:bu s with
 |false=>
  rw[c1] at h2;simp only[ay,false_and,if_false];simp only[ai,aS,boxes,ints] at*;generalize s.boxes.map af=rb at*;generalize ax s.gone=rs at*;simp (maxSteps:=9^9) [a8,dI.m,dI.b,aa,setAt,h1,h2,h4,er,eg,ab]
 |true=>
  rw[c1] at h2;cases c2:pV s m with
  |true=>
   rw[c2] at h3;simp only[Bool.true_eq_false,and_false,if_false];simp only[ai,aS,boxes,ints] at*;generalize s.boxes.map af=rb at*;generalize ax s.gone=rs at*;simp (maxSteps:=9^9) [a8,dI.m,dI.b,aa,setAt,h1,h2,h3,h4,er,eg,ab]
  |false=>
   rw[c2] at h3;rw[if_pos ⟨rfl,rfl⟩];cases c3:me s.boxes g with
   |none=>
    rw[c3] at h1;rw[lQ c3];simp only[ai,aS,boxes,ints,dN] at*;generalize s.boxes.map af=rb at*;generalize ax s.gone=rs at*;simp (maxSteps:=9^9) [a8,dI.m,dI.b,aa,setAt,h1,h2,h3,h4,er,eg,ab]
   |some i=>
    rw[c3] at h1;obtain⟨hi,_⟩:=iO c3;rw[lP c3 hi];have hG:=(eT c1).boxes.j2 _ (ar hi);have h6:=dg.al ka s.boxes[i] hG.tM m f x (s.time+1) s.eD;have hin:=xT hG.tM m f x (s.time+1) s.eD;have h7:=eG.al kst s hs i hi (kF s.boxes[i] m f x (s.time+1) s.eD).1 hin (by have:=om c1;have:=sQ hG m f x (s.time+1) s.eD;omega);have a1:∀hh,(s.boxes.map af)[i]'hh=af s.boxes[i]:=by intro hh;simp
    have ni:¬(i:Int)<0:=by omega
    generalize kF s.boxes[i] m f x (s.time+1) s.eD=A at*;obtain⟨b',ok⟩:=A;generalize stamped s i b'=B at*;obtain⟨s',ok'⟩:=B;have er2:(s'.boxes.map af).length=s'.boxes.length:=by simp
    have eg2:=aI s'.gone;simp only[ai,aS,boxes,ints,dN] at h1 h2 h3 h4 h5 h7 ⊢;simp only[af,bM,ae,ints] at h6 h7 a1;generalize hrb:s.boxes.map af=rb at*;generalize hrs:ax s.gone=rs at*;generalize s.boxes[i].ae.map ah=r1 at*;generalize ax s.boxes[i].gone=r2 at*;generalize b'.ae.map ah=r3 at*;generalize ax b'.gone=r4 at*;cases ok
    ·simp only[ay,if_false];simp (maxSteps:=9^9) [a8,dI.m,dI.b,aa,setAt,hi,ni,h1,h2,h3,h4,h5,h6,er,eg,a1,ab];exact⟨hrb.symm,hrs.symm⟩
    ·simp only[if_true];generalize s'.boxes.map af=rb' at*;generalize ax s'.gone=rs' at*;simp (maxSteps:=9^9) [a8,dI.m,dI.b,aa,setAt,hi,ni,h1,h2,h3,h5,h6,h7,er,er2,eg2,a1,ab]
theorem dy.al(h:dy.k M)(s:aW)(hs:m7 s)(g m f:Int):
  run M 280 [.a (ai s),.c (I g),.c (I m),.c (I f)] []=some (.lL [.a (aS (kM s g m f).1),.c (.bool (kM s g m f).2)],[]):=by
 obtain⟨h0,ka,ko,kb,kc,kn,kst⟩:=h;have h1:=dA.al kb s g hs.kU.b;have h2:=aN.al ko s hs.kU;have h4:=cd.al kc s hs.kU;have h5:=dV.al kn s hs.time;have er:(s.boxes.map af).length=s.boxes.length:=by simp
 have eg:=aI s.gone;refine ao (b:=dy.m) h0 ⟨0, ?_⟩;unfold kM;cases c1:bu s with
 |false=>
  rw[c1] at h2;simp only[ay,if_false];simp only[ai,aS,boxes,ints] at*;generalize s.boxes.map af=rb at*;generalize ax s.gone=rs at*;simp (maxSteps:=9^9) [a8,dy.m,dy.b,aa,setAt,h1,h2,h4,er,eg,ab]
 |true=>
  rw[c1] at h2;rw[if_pos rfl];cases c3:me s.boxes g with
  |none=>
   rw[c3] at h1;rw[lQ c3];simp only[ai,aS,boxes,ints,dN] at*;generalize s.boxes.map af=rb at*;generalize ax s.gone=rs at*;simp (maxSteps:=9^9) [a8,dy.m,dy.b,aa,setAt,h1,h2,h4,er,eg,ab]
  |some i=>
   rw[c3] at h1;obtain⟨hi,_⟩:=iO c3;rw[lP c3 hi];have hG:=(eT c1).boxes.j2 _ (ar hi);have h6:=de.al ka s.boxes[i] hG.tM m f (s.time+1) s.eD;have hin:=vq hG.tM m f (s.time+1) s.eD;have h7:=eG.al kst s hs i hi (jJ s.boxes[i] m f (s.time+1) s.eD).1 hin (by have:=om c1;have:=rI hG m f (s.time+1) s.eD;omega);have a1:∀hh,(s.boxes.map af)[i]'hh=af s.boxes[i]:=by intro hh;simp
   have ni:¬(i:Int)<0:=by omega
   generalize jJ s.boxes[i] m f (s.time+1) s.eD=A at*;obtain⟨b',ok⟩:=A;generalize stamped s i b'=B at*;obtain⟨s',ok'⟩:=B;have er2:(s'.boxes.map af).length=s'.boxes.length:=by simp
   have eg2:=aI s'.gone;simp only[ai,aS,boxes,ints,dN] at h1 h2 h4 h5 h7 ⊢;simp only[af,bM,ae,ints] at h6 h7 a1;generalize hrb:s.boxes.map af=rb at*;generalize hrs:ax s.gone=rs at*;generalize s.boxes[i].ae.map ah=r1 at*;generalize ax s.boxes[i].gone=r2 at*;generalize b'.ae.map ah=r3 at*;generalize ax b'.gone=r4 at*;cases ok
   ·simp only[ay,if_false];simp (maxSteps:=9^9) [a8,dy.m,dy.b,aa,setAt,hi,ni,h1,h2,h4,h5,h6,er,eg,a1,ab];exact⟨hrb.symm,hrs.symm⟩
   ·simp only[if_true];generalize s'.boxes.map af=rb' at*;generalize ax s'.gone=rs' at*;simp (maxSteps:=9^9) [a8,dy.m,dy.b,aa,setAt,hi,ni,h1,h2,h5,h6,h7,er,er2,eg2,a1,ab]
theorem dz.al(h:dz.k M)(s:aW)(hs:m7 s)(g m:Int):
  run M 281 [.a (ai s),.c (I g),.c (I m)] []=some (.lL [.a (aS (kN s g m).1),.c (.bool (kN s g m).2)],[]):=by
 obtain⟨h0,kt,ko,kb,kc⟩:=h;have h1:=dA.al kb s g hs.kU.b;have h2:=aN.al ko s hs.kU;have h4:=cd.al kc s hs.kU;have er:(s.boxes.map af).length=s.boxes.length:=by simp
 have eg:=aI s.gone;refine ao (b:=dz.m) h0 ⟨0, ?_⟩;unfold kN;cases c1:bu s with
 |false=>
  rw[c1] at h2;simp only[ay,if_false];simp only[ai,aS,boxes,ints] at*;generalize s.boxes.map af=rb at*;generalize ax s.gone=rs at*;simp (maxSteps:=9^9) [a8,dz.m,dz.b,aa,setAt,h1,h2,h4,er,eg,ab]
 |true=>
  rw[c1] at h2;rw[if_pos rfl];cases c3:me s.boxes g with
  |none=>
   rw[c3] at h1;rw[lQ c3];simp only[ai,aS,boxes,ints,dN] at*;generalize s.boxes.map af=rb at*;generalize ax s.gone=rs at*;simp (maxSteps:=9^9) [a8,dz.m,dz.b,aa,setAt,h1,h2,h4,er,eg,ab]
  |some i=>
   rw[c3] at h1;obtain⟨hi,_⟩:=iO c3;rw[lP c3 hi];have hG:=(eT c1).boxes.j2 _ (ar hi);have h6:=cS.al kt s.boxes[i] hG.tM m;have a1:∀hh,(s.boxes.map af)[i]'hh=af s.boxes[i]:=by intro hh;simp
   have ni:¬(i:Int)<0:=by omega
   generalize jY s.boxes[i] m=A at*;obtain⟨b',ok⟩:=A;have es:(s.boxes.set i b').map af=(s.boxes.map af).set i (af b'):=fR;simp only[ai,aS,boxes,ints,dN] at h1 h2 h4 ⊢;simp only[af,bM,ae,ints] at h6 a1 es;cases ok
   ·simp only[ay,if_false];generalize s.boxes.map af=rb at*;generalize ax s.gone=rs at*;generalize s.boxes[i].ae.map ah=r1 at*;generalize ax s.boxes[i].gone=r2 at*;generalize b'.ae.map ah=r3 at*;generalize ax b'.gone=r4 at*;simp (maxSteps:=9^9) [a8,dz.m,dz.b,aa,setAt,hi,ni,h1,h2,h4,h6,er,eg,a1,ab]
   ·simp only[if_true,es];clear es;generalize s.boxes.map af=rb at*;generalize ax s.gone=rs at*;generalize s.boxes[i].ae.map ah=r1 at*;generalize ax s.boxes[i].gone=r2 at*;generalize b'.ae.map ah=r3 at*;generalize ax b'.gone=r4 at*;simp (maxSteps:=9^9) [a8,dz.m,dz.b,aa,setAt,hi,ni,h1,h2,h4,h6,er,eg,a1,ab]
def j0(s:aW)(nm:List UInt8)(b:bz):bz:={b with name:=nm,time:=s.time+1,eD:=s.eD}
def jV(s:aW)(g:Int)(nm:List UInt8):aW×Bool:=if bu s=true∧(named s.boxes nm).isSome=false then at_ s g fun i b=>stamped s i (j0 s nm b) else(s,false)
theorem cK.al(h:cK.k M)(s:aW)(hs:m7 s)(g:Int)(nm:List UInt8)(hn:nm.length≤1048576):
  run M 282 [.a (ai s),.c (I g),.c (S nm)] []=some (.lL [.a (aS (jV s g nm).1),.c (.bool (jV s g nm).2)],[]):=by
 obtain⟨h0,ko,kb,kc,kn,kst⟩:=h;have ht:=hs.time;have h1:=dA.al kb s g hs.kU.b;have h2:=aN.al ko s hs.kU;have h3:=cG.al kn s nm hs.kU.b;have h4:=cd.al kc s hs.kU;have h5:=dV.al kst s hs.time;have er:(s.boxes.map af).length=s.boxes.length:=by simp
 have eg:=aI s.gone;have e5:IntKind.i64.wrap (s.time+1)=s.time+1:=wrap_i64 (by omega) (by omega);refine ao (b:=cK.m) h0 ⟨0, ?_⟩;unfold jV;cases c1:bu s with
 |false=>
  rw[c1] at h2;simp only[ay,false_and,if_false];simp only[ai,aS,boxes,ints] at*;generalize s.boxes.map af=rb at*;generalize ax s.gone=rs at*;simp (maxSteps:=9^9) [a8,cK.m,cK.b,aa,setAt,h1,h2,h4,er,eg,ab]
 |true=>
  rw[c1] at h2;cases c3:me s.boxes g with
  |none=>
   rw[c3] at h1;have e:(if true=true∧(named s.boxes nm).isSome=false then at_ s g fun i b=>stamped s i (j0 s nm b) else(s,false))=(s,false):=by
    rw[lQ c3];split<;>rfl
   rw[e];simp only[ai,aS,boxes,ints,dN] at*;generalize s.boxes.map af=rb at*;generalize ax s.gone=rs at*;simp (maxSteps:=9^9) [a8,cK.m,cK.b,aa,setAt,h1,h2,h4,er,eg,ab]
  |some i=>
   rw[c3] at h1;obtain⟨hi,_⟩:=iO c3;have ni:¬(i:Int)<0:=by omega
   have c0:=lE (named s.boxes nm);cases c2:(named s.boxes nm).isSome with
   |true=>
    rw[c2] at c0;simp only[decide_eq_true_eq] at c0;simp only[Bool.true_eq_false,and_false,if_false];generalize dN (named s.boxes nm)=z at*;simp only[ai,aS,boxes,ints,dN] at*;generalize s.boxes.map af=rb at*;generalize ax s.gone=rs at*;simp (maxSteps:=9^9) [a8,cK.m,cK.b,aa,setAt,ni,c0,h1,h2,h3,h4,er,eg,ab]
   |false=>
    rw[c2] at c0;simp only[decide_eq_false_iff_not] at c0;rw[if_pos ⟨rfl,rfl⟩,lP c3 hi];have hG:=(eT c1).boxes.j2 _ (ar hi);have hin:iw (j0 s nm s.boxes[i]):=⟨hG.tM.m,hG.tM.g,hn,hG.tM.f⟩;have h6:=aN.al ko _ (nO hs.kU hi hin (by have:=om c1;have:=hG.len;simp only[j0];omega));have a1:∀hh,(s.boxes.map af)[i]'hh=af s.boxes[i]:=by intro hh;simp
    have es:(gS s i (j0 s nm s.boxes[i])).boxes.map af=(s.boxes.map af).set i (af (j0 s nm s.boxes[i])):=by simp only[gS,fR]
    have ew:(gS s i (j0 s nm s.boxes[i])).eD=s.eD:=rfl;have et:(gS s i (j0 s nm s.boxes[i])).time=s.time+1:=rfl;have egn:(gS s i (j0 s nm s.boxes[i])).gone=s.gone:=rfl;unfold stamped;generalize dN (named s.boxes nm)=z at*;cases c:bu (gS s i (j0 s nm s.boxes[i])) with
    |true=>
     rw[c] at h6;rw[if_pos rfl];simp only[ai,aS,boxes,ints,dN,es,ew,et,egn] at h1 h2 h3 h4 h5 h6 ⊢;clear es c;simp only[af,ae,ints,j0] at h6 a1 ⊢;generalize s.boxes.map af=rb at*;generalize ax s.gone=rs at*;generalize s.boxes[i].ae.map ah=r1 at*;generalize ax s.boxes[i].gone=r2 at*;simp (maxSteps:=9^9) [a8,cK.m,cK.b,aa,setAt,hi,ni,c0,h1,h2,h3,h4,h5,h6,e5,er,eg,a1,ab]
    |false=>
     rw[c] at h6;rw[if_neg (by decide)];simp only[ai,aS,boxes,ints,dN,es,ew,et,egn] at h1 h2 h3 h4 h5 h6 ⊢;clear es c;simp only[af,ae,ints,j0] at h6 a1 ⊢;generalize s.boxes.map af=rb at*;generalize ax s.gone=rs at*;generalize s.boxes[i].ae.map ah=r1 at*;generalize ax s.boxes[i].gone=r2 at*;simp (maxSteps:=9^9) [a8,cK.m,cK.b,aa,setAt,hi,ni,c0,h1,h2,h3,h4,h5,h6,e5,er,eg,a1,ab]
def lO(s:aW)(g:Int):aW×Bool:=if bu s=true∧s.gone.length<20 then at_ s g fun i _=>({s with boxes:=s.boxes.take i++s.boxes.drop (i+1),gone:=kY s.gone g},true) else(s,false)
theorem dK.al(h:dK.k M)(s:aW)(hs:m7 s)(g:Int):
  run M 283 [.a (ai s),.c (I g)] []=some (.lL [.a (aS (lO s g).1),.c (.bool (lO s g).2)],[]):=by
 obtain⟨h0,kp,ko,kb,kc⟩:=h;have h1:=dA.al kb s g hs.kU.b;have h2:=aN.al ko s hs.kU;have h4:=cd.al kc s hs.kU;have h5:=b7.al kp s.gone g (by have:=hs.kU.g;omega);have er:(s.boxes.map af).length=s.boxes.length:=by simp
 have eg:=aI s.gone;have hbl:=hs.kU.b;refine ao (b:=dK.m) h0 ⟨0, ?_⟩;unfold lO;cases c1:bu s with
 |false=>
  rw[c1] at h2;simp only[ay,false_and,if_false];simp only[ai,aS,boxes,ints] at*;generalize s.boxes.map af=rb at*;generalize ax s.gone=rs at*;simp (maxSteps:=9^9) [a8,dK.m,dK.b,aa,setAt,h1,h2,h4,er,eg,ab]
 |true=>
  rw[c1] at h2;cases c3:me s.boxes g with
  |none=>
   rw[c3] at h1;have e:(if true=true∧s.gone.length<20 then at_ s g fun i _=>({s with boxes:=s.boxes.take i++s.boxes.drop (i+1),gone:=kY s.gone g},true) else(s,false))=(s,false):=by
    rw[lQ c3];split<;>rfl
   rw[e];simp only[ai,aS,boxes,ints,dN] at*;generalize s.boxes.map af=rb at*;generalize ax s.gone=rs at*;simp (maxSteps:=9^9) [a8,dK.m,dK.b,aa,setAt,h1,h2,h4,er,eg,ab]
  |some i=>
   rw[c3] at h1;obtain⟨hi,_⟩:=iO c3;have ni:¬(i:Int)<0:=by omega
   by_cases c2:s.gone.length<20
   ·have c2':¬(20:Int)≤(s.gone.length:Int):=by omega
    have c2'':¬20≤s.gone.length:=by omega
    rw[if_pos ⟨rfl,c2⟩,lP c3 hi];have e5:=cz (i:=i) (by omega);have e6:(s.boxes.take i++s.boxes.drop (i+1)).map af=(s.boxes.map af).take i++(s.boxes.map af).drop (i+1):=by simp[List.map_take,List.map_drop]
    have e7:=aI (kY s.gone g);have e8:i≤s.boxes.length:=by omega
    have e9:i+(s.boxes.length-(i+1))≤4294967296:=by omega
    have e10:i≤4294967296:=by omega
    have e11:i+1≤s.boxes.length:=by omega
    have e12:Min.min i s.boxes.length=i:=by omega
    simp only[ai,aS,boxes,ints,dN,e6] at h1 h2 h4 h5 ⊢;generalize ax (kY s.gone g)=rp at*;generalize s.boxes.map af=rb at*;generalize ax s.gone=rs at*;have f1:(0:Int)≤(i:Int)+1:=by omega
    have f2:((i:Int)+1).toNat=i+1:=by omega
    by_cases c9:i+1=s.boxes.length
    ·have d1:rb.drop (i+1)=[]:=eK (by omega);have d2:rb.drop s.boxes.length=[]:=eK (by omega);have d3:s.boxes.length-(i+1)=0:=by omega
     have d4:¬s.boxes.length=0:=by omega
     rw[←c9] at hi er;simp (maxSteps:=9^9) [a8,dK.m,dK.b,aa,setAt,ni,c2',h1,h2,h4,h5,e5,e7,e10,d1,f1,f2,er,eg,ab]
    ·simp (maxSteps:=9^9) [a8,dK.m,dK.b,aa,setAt,ni,c2',c9,f1,f2,h1,h2,h4,h5,e5,e7,e8,e9,e10,e11,e12,er,eg,ab]
   ·have c2':(20:Int)≤(s.gone.length:Int):=by omega
    have c2'':20≤s.gone.length:=by omega
    simp only[c2,and_false,if_false];simp only[ai,aS,boxes,ints,dN] at*;generalize s.boxes.map af=rb at*;generalize ax s.gone=rs at*;simp (maxSteps:=9^9) [a8,dK.m,dK.b,aa,setAt,ni,c2',h1,h2,h4,er,eg,ab]
structure KS where
 s:aW
 g:Int
 N:List T
 u3:Nat
 u6:Nat
 u8:Nat
 u9:Nat
 w2:Nat
 w3:Nat
def ES(c:KS)(v n:Nat):List T:=[I c.s.eD,I c.s.time,.row 30 v 0 n,.row 12903 c.w3 0 c.s.gone.length]
def Ld(c:KS)(i:Nat)(out:List bz)(y:Nat×Nat):St:={t:=[(1,.c (I c.g)),(3,.c (.ptr 3 c.u3 0 0)),(6,.c (.ptr 6 c.u6 0 0)),(8,.c (.ptr 8 c.u8 0 0)),(9,.c (.ptr 9 c.u9 0 0)),(10,.c (I i))],o:=[(3,⟨c.u3,4,true,true,[ai c.s]⟩),(6,⟨c.u6,4,true,true,[oz]⟩),(8,⟨c.u8,4,true,true,[ES c y.1 out.length]⟩),(9,⟨c.u9,7,true,true,[c.N]⟩),(30,⟨y.1,7,true,false,out.map af⟩),(12902,⟨c.w2,7,true,false,c.s.boxes.map af⟩),(12903,⟨c.w3,1,true,false,ax c.s.gone⟩)],n:=y.2}
def MH(c:KS)(out:List bz)(y:Nat×Nat):St:={t:=[(1,.c (I c.g)),(3,.c (.ptr 3 c.u3 0 0)),(6,.c (.ptr 6 c.u6 0 0)),(8,.c (.ptr 8 c.u8 0 0)),(9,.c (.ptr 9 c.u9 0 0)),(10,.c (I c.s.boxes.length)),(41,.c (.bool false))],o:=[(3,⟨c.u3,4,true,true,[ai c.s]⟩),(6,⟨c.u6,4,true,true,[oz]⟩),(8,⟨c.u8,4,true,true,[ES c y.1 out.length]⟩),(9,⟨c.u9,7,true,true,[c.N]⟩),(30,⟨y.1,7,true,false,out.map af⟩),(12902,⟨c.w2,7,true,false,c.s.boxes.map af⟩),(12903,⟨c.w3,1,true,false,ax c.s.gone⟩)],n:=y.2}
def Lc(c:KS)(i:Nat)(out:List bz)(y:Nat×Nat):St:={t:=[(1,.c (I c.g)),(3,.c (.ptr 3 c.u3 0 0)),(6,.c (.ptr 6 c.u6 0 0)),(8,.c (.ptr 8 c.u8 0 0)),(11,.c (I i))],o:=[(3,⟨c.u3,4,true,true,[ai c.s]⟩),(6,⟨c.u6,4,true,true,[oz]⟩),(8,⟨c.u8,4,true,true,[ES c y.1 out.length]⟩),(30,⟨y.1,7,true,false,out.map af⟩),(12902,⟨c.w2,7,true,false,c.s.boxes.map af⟩),(12903,⟨c.w3,1,true,false,ax c.s.gone⟩)],n:=y.2}
def MG(c:KS)(out:List bz)(y:Nat×Nat):St:={t:=[(1,.c (I c.g)),(3,.c (.ptr 3 c.u3 0 0)),(6,.c (.ptr 6 c.u6 0 0)),(8,.c (.ptr 8 c.u8 0 0)),(11,.c (I c.s.boxes.length)),(73,.c (.bool false))],o:=[(3,⟨c.u3,4,true,true,[ai c.s]⟩),(6,⟨c.u6,4,true,true,[oz]⟩),(8,⟨c.u8,4,true,true,[ES c y.1 out.length]⟩),(30,⟨y.1,7,true,false,out.map af⟩),(12902,⟨c.w2,7,true,false,c.s.boxes.map af⟩),(12903,⟨c.w3,1,true,false,ax c.s.gone⟩)],n:=y.2}
theorem qL(p:bz→Bool):∀(l s:List bz),l.foldl (fun s a=>if p a=true then s++[a] else s) s=s++l.filter p
 |[],s=>by simp
 |a::l,s=>by
  rw[ff,qL p l,iP];by_cases h:p a=true<;>simp[h]
theorem HW(kc:b5.k M)(k:Nat)(c:KS)(hs:iI c.s)(hk:c.s.boxes.length<k)(y:Nat×Nat):
  ∃z,fi (cy (run M) k bZ.l0) k (Ld c 0 [] y)=some (.exit 0,MH c (c.s.boxes.filter fun b=>decide (b.gid<c.g)) z):=by
 have hbl:=hs.b;have er:(c.s.boxes.map af).length=c.s.boxes.length:=by simp
 obtain⟨g,hr⟩:=jz (f:=cy (run M) k bZ.l0) c.s.boxes (fun s b=>if decide (b.gid<c.g)=true then s++[b] else s) (fun i s=>s.length≤i) (Ld c) 0 (MH c)
  (fun i h s hs=>by split<;>(try simp)<;>omega)
  (fun i hi s y hi2=>by
   obtain⟨v,n⟩:=y;have hB:=hs.i _ (ar hi);have h1:=b5.al kc c.s.boxes[i] hB;have e5:=cz (i:=i) (by omega);have e6:s.length+1≤4294967296:=by omega
   have e9:(s.map af).length=s.length:=by simp
   have a1:∀hh,(c.s.boxes.map af)[i]'hh=af c.s.boxes[i]:=by intro hh;simp
   simp only[aH];by_cases q:c.s.boxes[i].gid<c.g
   ·simp only[q,decide_true,if_true,Ld,ES,cU,bB,bJ,aC,bU];simp only[ai,af,bM,boxes,ae,ints] at a1 h1 ⊢;generalize c.s.boxes.map af=rb at*;generalize ax c.s.gone=rs at*;generalize s.map af=ro at*;generalize c.s.boxes[i].ae.map ah=r1 at*;generalize ax c.s.boxes[i].gone=r2 at*;simp (maxSteps:=9^9) [bZ.l0,aa,setAt,hi,q,h1,e5,e6,e9,er,a1,ab]
   ·simp only[q,decide_false,ay,if_false,Ld,ES];simp only[ai,af,bM,boxes,ae,ints] at a1 h1 ⊢;generalize c.s.boxes.map af=rb at*;generalize ax c.s.gone=rs at*;generalize s.map af=ro at*;generalize c.s.boxes[i].ae.map ah=r1 at*;generalize ax c.s.boxes[i].gone=r2 at*;simp (maxSteps:=9^9) [bZ.l0,aa,hi,q,e5,er,a1])
  (fun s y hs=>by
   obtain⟨v,n⟩:=y;simp only[aH,Ld,MH,ES,ai,boxes,ints];generalize c.s.boxes.map af=rb at*;generalize ax c.s.gone=rs at*;generalize s.map af=ro at*;simp (maxSteps:=9^9) [bZ.l0,aa,er]) [] (by simp)
 rw[qL,List.nil_append] at hr;exact⟨_,gP (hr y) (by omega)⟩
theorem HV(kc:b5.k M)(k:Nat)(c:KS)(hs:iI c.s)(hk:c.s.boxes.length<k)(o0:List bz)(ho:o0.length≤2097152)(y:Nat×Nat):
  ∃z,fi (cy (run M) k bZ.l1) k (Lc c 0 o0 y)=some (.exit 2,MG c (o0++c.s.boxes.filter fun b=>decide (c.g<b.gid)) z):=by
 have hbl:=hs.b;have er:(c.s.boxes.map af).length=c.s.boxes.length:=by simp
 obtain⟨g,hr⟩:=jz (f:=cy (run M) k bZ.l1) c.s.boxes (fun s b=>if decide (c.g<b.gid)=true then s++[b] else s) (fun i s=>s.length≤2097152+i) (Lc c) 2 (MG c)
  (fun i h s hs=>by split<;>(try simp)<;>omega)
  (fun i hi s y hi2=>by
   obtain⟨v,n⟩:=y;have hB:=hs.i _ (ar hi);have h1:=b5.al kc c.s.boxes[i] hB;have e5:=cz (i:=i) (by omega);have e6:s.length+1≤4294967296:=by omega
   have e9:(s.map af).length=s.length:=by simp
   have a1:∀hh,(c.s.boxes.map af)[i]'hh=af c.s.boxes[i]:=by intro hh;simp
   simp only[aH];by_cases q:c.g<c.s.boxes[i].gid
   ·simp only[q,decide_true,if_true,Lc,ES,cU,bB,bJ,aC,bU];simp only[ai,af,bM,boxes,ae,ints] at a1 h1 ⊢;generalize c.s.boxes.map af=rb at*;generalize ax c.s.gone=rs at*;generalize s.map af=ro at*;generalize c.s.boxes[i].ae.map ah=r1 at*;generalize ax c.s.boxes[i].gone=r2 at*;simp (maxSteps:=9^9) [bZ.l1,aa,setAt,hi,q,h1,e5,e6,e9,er,a1,ab]
   ·simp only[q,decide_false,ay,if_false,Lc,ES];simp only[ai,af,bM,boxes,ae,ints] at a1 h1 ⊢;generalize c.s.boxes.map af=rb at*;generalize ax c.s.gone=rs at*;generalize s.map af=ro at*;generalize c.s.boxes[i].ae.map ah=r1 at*;generalize ax c.s.boxes[i].gone=r2 at*;simp (maxSteps:=9^9) [bZ.l1,aa,hi,q,e5,er,a1])
  (fun s y hs=>by
   obtain⟨v,n⟩:=y;simp only[aH,Lc,MG,ES,ai,boxes,ints];generalize c.s.boxes.map af=rb at*;generalize ax c.s.gone=rs at*;generalize s.map af=ro at*;simp (maxSteps:=9^9) [bZ.l1,aa,er]) o0 (by omega)
 rw[qL] at hr;exact⟨_,gP (hr y) (by omega)⟩
def mQ(s:aW)(g:Int)(nm:List UInt8):bz:=⟨g,nm,s.time+1,s.eD,1,[],[]⟩
def iz(s:aW)(g:Int)(nm:List UInt8):aW:={s with boxes:=(s.boxes.filter fun b=>decide (b.gid<g))++[mQ s g nm]++s.boxes.filter fun b=>decide (g<b.gid),time:=s.time+1}
def lN(s:aW)(g:Int)(nm:List UInt8):aW×Bool:=if bu s=true∧pV s g=false∧(named s.boxes nm).isSome=false then(if bu (iz s g nm)=true then(iz s g nm,true) else(s,false)) else(s,false)
theorem yG{s:aW}(h:bu s=true)(g:Int)(nm:List UInt8)(hn:nm.length≤1048576):iI (iz s g nm):=by
 have G:=eT h;have hl:=G.boxes.len;have f1:=bV (fun b:bz=>decide (b.gid<g)) s.boxes;have f2:=bV (fun b:bz=>decide (g<b.gid)) s.boxes;have hin:∀x∈(iz s g nm).boxes,x∈s.boxes∨x=mQ s g nm:=fun x hx=>by
  simp only[iz,iu,fJ,fy] at hx;rcases hx with (q|q)|q
  ·exact .inl q.1
  ·exact .inr q
  ·exact .inl q.1
 have hlen:(iz s g nm).boxes.length≤11:=by simp only[iz,aC,bU];omega
 have key:∀l:List bz,(∀x∈l,x.ae.length≤10)→(l.flatMap b_).length≤10*l.length:=by
  intro l
  induction l with
  |nil=>intro _;simp
  |cons x l ih=>
   intro h;have h1:=ih fun y hy=>h y (bq _ hy)
   have h2:=h x (bh ..);simp only[cH,aC,b_,gD,bT] at h1 ⊢;omega
 refine⟨by omega,by have:=G.gone;simp only[iz];omega,fun x hx=> ?_, ?_⟩
 ·rcases hin x hx with q|q
  ·exact(G.boxes.j2 x q).tM
  ·rw[q];exact⟨by simp[mQ],by simp[mQ],hn,by simp[mQ]⟩
 ·have:=key (iz s g nm).boxes fun x hx=>by
   rcases hin x hx with q|q
   ·exact(G.boxes.j2 x q).len
   ·rw[q];simp[mQ]
  omega
theorem bZ.al(h:bZ.k M)(s:aW)(hs:m7 s)(g:Int)(nm:List UInt8)(hn:nm.length≤1048576):
  run M 278 [.a (ai s),.c (I g),.c (S nm)] []=some (.lL [.a (aS (lN s g nm).1),.c (.bool (lN s g nm).2)],[]):=by
 obtain⟨h0,ko,kc6,kc,kn,kk,kst⟩:=h;have ht:=hs.time;have hbl:=hs.kU.b;have h2:=aN.al ko s hs.kU;have h3:=cG.al kn s nm hs.kU.b;have h7:=eX.al kk s g hs.kU;have h4:=cd.al kc s hs.kU;have h5:=dV.al kst s hs.time;have er:(s.boxes.map af).length=s.boxes.length:=by simp
 have eg:=aI s.gone;have e5:IntKind.i64.wrap (s.time+1)=s.time+1:=wrap_i64 (by omega) (by omega);have c0:=lE (named s.boxes nm);refine ao (b:=bZ.m) h0 ⟨s.boxes.length+1, ?_⟩;unfold lN;cases c1:bu s with
 |false=>
  rw[c1] at h2;simp only[ay,false_and,if_false];simp only[ai,aS,boxes,ints] at*;generalize s.boxes.map af=rb at*;generalize ax s.gone=rs at*;simp (maxSteps:=9^9) [a8,bZ.m,bZ.b,aa,setAt,h2,h4,er,eg,ab]
 |true=>
  rw[c1] at h2;cases c2:pV s g with
  |true=>
   rw[c2] at h7;simp only[Bool.true_eq_false,false_and,and_false,if_false];simp only[ai,aS,boxes,ints] at*;generalize s.boxes.map af=rb at*;generalize ax s.gone=rs at*;simp (maxSteps:=9^9) [a8,bZ.m,bZ.b,aa,setAt,h2,h4,h7,er,eg,ab]
  |false=>
   rw[c2] at h7;cases c3:(named s.boxes nm).isSome with
   |true=>
    rw[c3] at c0;simp only[decide_eq_true_eq] at c0;simp only[Bool.true_eq_false,and_false,if_false];generalize dN (named s.boxes nm)=z at*;simp only[ai,aS,boxes,ints] at*;generalize s.boxes.map af=rb at*;generalize ax s.gone=rs at*;simp (maxSteps:=9^9) [a8,bZ.m,bZ.b,aa,setAt,c0,h2,h3,h4,h7,er,eg,ab]
   |false=>
    rw[c3] at c0;simp only[decide_eq_false_iff_not] at c0;rw[if_pos ⟨rfl,rfl,rfl⟩];have h6:=aN.al ko _ (yG c1 g nm hn);obtain⟨⟨v1,n1⟩,r1⟩:=HW kc6 (s.boxes.length+1) ⟨s,g,[I g,S nm,I (s.time+1),I s.eD,I 1,.aO 4,.aO 1],2000000,2000016,2000304,2000464,2000290,2000291⟩ hs.kU (by simp only;omega) (2000336,2000512);have f1:=bV (fun b:bz=>decide (b.gid<g)) s.boxes;have f2:=bV (fun b:bz=>decide (g<b.gid)) s.boxes;obtain⟨⟨v2,n2⟩,r2⟩:=HV kc6 (s.boxes.length+1) ⟨s,g,[],2000000,2000016,2000304,0,2000290,2000291⟩ hs.kU (by simp only;omega) ((s.boxes.filter fun b=>decide (b.gid<g))++[mQ s g nm]) (by simp;omega) (n1+64,n1+128);have ez:((0:Nat):Int)=0:=rfl;have el1:((s.boxes.filter fun b=>decide (b.gid<g)).map af).length=(s.boxes.filter fun b=>decide (b.gid<g)).length:=by simp
    have em:(((s.boxes.filter fun b=>decide (b.gid<g))++[mQ s g nm]).map af)=(s.boxes.filter fun b=>decide (b.gid<g)).map af++[[I g,S nm,I (s.time+1),I s.eD,I 1,.sl false 4 [],.sl false 1 []]]:=by simp[mQ,af,ax]
    have eml:((s.boxes.filter fun b=>decide (b.gid<g))++[mQ s g nm]).length=(s.boxes.filter fun b=>decide (b.gid<g)).length+1:=by simp
    have e6:(s.boxes.filter fun b=>decide (b.gid<g)).length+1≤4294967296:=by omega
    have emt:(iz s g nm).boxes=(s.boxes.filter fun b=>decide (b.gid<g))++[mQ s g nm]++s.boxes.filter fun b=>decide (g<b.gid):=rfl
    have el2:((iz s g nm).boxes.map af).length=(iz s g nm).boxes.length:=by simp
    have ew:(iz s g nm).eD=s.eD:=rfl;have et:(iz s g nm).time=s.time+1:=rfl;have egn:(iz s g nm).gone=s.gone:=rfl;simp only[Ld,MH,ES,ez,bJ,eJ] at r1;simp only[Lc,MG,ES,ez,←emt,em,eml] at r2;clear emt em eml;generalize dN (named s.boxes nm)=z at*;generalize (s.boxes.filter fun b=>decide (b.gid<g)).map af=rf at*;generalize (s.boxes.filter fun b=>decide (b.gid<g)).length=nf at*;cases c:bu (iz s g nm) with
    |true=>
     rw[c] at h6;rw[if_pos rfl];simp only[ai,aS,boxes,ints,ew,et,egn] at h2 h3 h4 h5 h6 h7 r1 r2 ⊢;clear c;generalize (iz s g nm).boxes.map af=rm at*;generalize (iz s g nm).boxes.length=nm2 at*;generalize s.boxes.map af=rb at*;generalize ax s.gone=rs at*;simp (maxSteps:=9^9) [a8,bZ.m,bZ.b,aa,setAt,c0,h2,h3,h4,h5,h6,h7,r1,r2,e5,e6,el1,el2,er,eg,ab]
    |false=>
     rw[c] at h6;rw[if_neg (by decide)];simp only[ai,aS,boxes,ints,ew,et,egn] at h2 h3 h4 h5 h6 h7 r1 r2 ⊢;clear c;generalize (iz s g nm).boxes.map af=rm at*;generalize (iz s g nm).boxes.length=nm2 at*;generalize s.boxes.map af=rb at*;generalize ax s.gone=rs at*;simp (maxSteps:=9^9) [a8,bZ.m,bZ.b,aa,setAt,c0,h2,h3,h4,h5,h6,h7,r1,r2,e5,e6,el1,el2,er,eg,ab]
end Mx
namespace Mx
open Go
structure Mi (s:aW):Prop where
 eD:1≤s.eD∧s.eD≤2
 time:0≤s.time∧s.time≤100000
 len:s.boxes.length≤5
 gone:ym s.gone
 xk:∀g∈s.gone,1≤g∧g≤9999
 nL:s.gone.length≤20
 box:∀b∈s.boxes,Good b∧¬b.gid∈s.gone∧late b s.time=false
 JE:s.boxes.Pairwise fun x y=>x.gid<y.gid
 names:s.boxes.Pairwise fun x y=>x.name≠y.name
 ae:(s.boxes.flatMap b_).Nodup
theorem FF{l:List bz}(i:Nat)(hi:i<l.length):dN (named l l[i].name)=(i:Int)↔∀j (hj:j<i),(l[j]'(by omega)).name≠l[i].name:=by
 unfold named;constructor
 ·intro h j hj e;cases q:l.findIdx? (fun b=>decide (b.name=l[i].name)) with
  |none=>rw[q] at h;simp[dN] at h
  |some k=>
   rw[q] at h;simp only[dN] at h;have hk:k=i:=by omega
   subst hk;have:=(List.findIdx?_eq_some_iff_getElem.1 q).2.2 j hj;simp[e] at this
 ·intro h;have:l.findIdx? (fun b=>decide (b.name=l[i].name))=some i:=List.findIdx?_eq_some_iff_getElem.2 ⟨hi,by simp,fun j hj=>by simpa using h j hj⟩;rw[this];rfl
theorem A1(seen l:List Int)(hs:seen.Nodup):uF seen l=false↔(seen++l).Nodup:=by
 have h0:uF seen l=false↔∀k (hk:k<l.length),¬l[k]∈seen++l.take k:=by
  unfold uF;rw[Option.isSome_eq_false_iff,b9,iN];constructor
  ·intro h k hk c;have:=h k hk;rw[p5 hk] at this;simp only[decide_eq_false_iff_not] at this;exact this c
  ·intro h k hk;rw[p5 hk];simpa using h k hk
 rw[h0];constructor
 ·intro h;have key:∀k,k≤l.length→(seen++l.take k).Nodup:=by
   intro k
   induction k with
   |zero=>intro _;simpa using hs
   |succ k ih=>
    intro hk;rw[il l k (by omega),←ct,List.nodup_append];refine⟨ih (by omega),by simp,fun a ha b hb e=> ?_⟩;simp only[fy] at hb;subst hb;subst e;exact h k (by omega) ha
  have:=key l.length (Nat.le_refl _)
  rwa [List.take_length] at this
 ·intro h k hk c;have e:l=l.take k++l[k]::l.drop (k+1):=by rw[←bC hk,dm]
  rw[e,←ct,List.nodup_append] at h;exact h.2.2 _ c _ (bh ..) rfl
theorem Fl(s:aW):(∀i (hi:i<s.boxes.length),uF (seenAt s i) (b_ s.boxes[i])=false)↔(s.boxes.flatMap b_).Nodup:=by
 have ha:seenAt s s.boxes.length=s.boxes.flatMap b_:=by simp[seenAt]
 constructor
 ·intro h;have key:∀k,k≤s.boxes.length→(seenAt s k).Nodup:=by
   intro k
   induction k with
   |zero=>intro _;simp[seenAt]
   |succ k ih=>
    intro hk;rw[px (by omega)];exact(A1 _ _ (ih (by omega))).1 (h k (by omega))
  rw[←ha];exact key _ (Nat.le_refl _)
 ·intro h i hi;have hsub:(seenAt s (i+1)).Sublist (s.boxes.flatMap b_):=by
   have e:s.boxes.flatMap b_=seenAt s (i+1)++(s.boxes.drop (i+1)).flatMap b_:=by
    rw[seenAt,←List.flatMap_append,dm]
   rw[e];exact List.sublist_append_left ..
  have h1:=h.sublist hsub;rw[px hi] at h1;exact(A1 _ _ (List.nodup_append.1 h1).1).2 h1
theorem jx{s:aW}:bu s=true↔Mi s:=by
 have hsplit:(∀i (hi:i<s.boxes.length),qa s i=false)↔(∀i (hi:i<s.boxes.length),uN s i=false)∧(∀i (hi:i<s.boxes.length),uF (seenAt s i) (b_ s.boxes[i])=false):=by
  constructor
  ·intro h;exact⟨fun i hi=>by have:=h i hi;rw[nZ hi,fc] at this;exact this.1,fun i hi=>by have:=h i hi;rw[nZ hi,fc] at this;exact this.2⟩
  ·intro h i hi;rw[nZ hi,fc];exact⟨h.1 i hi,h.2 i hi⟩
 have hbox:∀i (hi:i<s.boxes.length),uN s i=false↔fQ s.boxes[i]=true∧(0<i→(s.boxes[i-1]'(by omega)).gid<s.boxes[i].gid)∧(∀j (hj:j<i),(s.boxes[j]'(by omega)).name≠s.boxes[i].name)∧¬s.boxes[i].gid∈s.gone∧late s.boxes[i] s.time=false:=fun i hi=>by
  rw[ot hi,←FF i hi];simp only[fc,Bool.not_eq_eq_eq_not,Bool.not_false,Bool.and_eq_false_imp,decide_eq_true_eq,decide_eq_false_iff_not,Int.not_le];constructor
  ·rintro ⟨⟨⟨⟨h1,h2⟩,h3⟩,h4⟩,h5⟩;exact⟨h1,h2,h3,h4,h5⟩
  ·rintro ⟨h1,h2,h3,h4,h5⟩;exact⟨⟨⟨⟨h1,h2⟩,h3⟩,h4⟩,h5⟩
 have hq:bu s=true↔((((1≤s.eD∧s.eD≤2)∧0≤s.time∧s.time≤100000)∧s.boxes.length≤5)∧l_ s.gone 20=true)∧∀i (hi:i<s.boxes.length),qa s i=false:=by
  simp only[bu,ak,decide_eq_true_eq,b9,iN,i_]
 rw[hq,hsplit,Fl];constructor
 ·rintro ⟨⟨⟨⟨h1,h2⟩,h3⟩,h4⟩,h5,h6⟩;obtain⟨g1,g2,g3⟩:=pf.1 h4;have hb:=fun i hi=>(hbox i hi).1 (h5 i hi)
  refine⟨h1,h2,h3,g1,g2,by omega,fun b hbm=> ?_, ?_, ?_,h6⟩
  ·obtain⟨i,hi,rfl⟩:=bF hbm;exact⟨o8.1 (hb i hi).1,(hb i hi).2.2.2.1,(hb i hi).2.2.2.2⟩
  ·have hA:ym (s.boxes.map (·.gid)):=wy fun j hj=>by
    simp only[gD] at hj;have:=(hb (j+1) hj).2.1 (by omega);simpa using this
   exact List.pairwise_map.1 hA
  ·exact List.pairwise_iff_getElem.2 fun i j hi hj hij=>(hb j hj).2.2.1 i hij
 ·intro h;refine⟨⟨⟨⟨h.eD,h.time⟩,h.len⟩,pf.2 ⟨h.gone,h.xk,by have:=h.nL;omega⟩⟩,fun i hi=>(hbox i hi).2 ⟨o8.2 (h.box _ (ar hi)).1,fun q=>List.pairwise_iff_getElem.1 h.JE (i-1) i (by omega) hi (by omega),fun j hj=>List.pairwise_iff_getElem.1 h.names j i (by omega) hi hj,(h.box _ (ar hi)).2.1,(h.box _ (ar hi)).2.2⟩,h.ae⟩
theorem F7{l l':List bz}(h:l.Sublist l'):(l.flatMap b_).Sublist (l'.flatMap b_):=by
 induction h with
 |slnil=>exact List.Sublist.refl _
 |cons a _ ih=>rw[cH];exact ih.trans (List.sublist_append_right _ _)
 |cons_cons a _ ih=>rw[cH,cH];exact List.Sublist.append (List.Sublist.refl _) ih
theorem ql{s:aW}(h:bu s=true)(i:Nat)(b:bz):bu (stamped s i b).1=true:=by
 unfold stamped;split
 ·rename_i c;exact c
 ·exact h
theorem Dv{s:aW}(h:bu s=true)(g:Int)(f:Nat→bz→aW×Bool)(hf:∀i (hi:i<s.boxes.length),bu (f i s.boxes[i]).1=true):bu (at_ s g f).1=true:=by
 cases c:me s.boxes g with
 |none=>rw[lQ c];exact h
 |some i=>
  obtain⟨hi,_⟩:=iO c;rw[lP c hi];exact hf i hi
theorem BY{s:aW}(h:bu s=true)(g m f:Int)(x:List UInt8):bu (lM s g m f x).1=true:=by
 unfold lM;split
 ·refine Dv h _ _ fun i hi=> ?_
  split
  ·exact ql h _ _
  ·exact h
 ·exact h
theorem AE{s:aW}(h:bu s=true)(g m f:Int):bu (kM s g m f).1=true:=by
 unfold kM;rw[if_pos h];refine Dv h _ _ fun i hi=> ?_
 split
 ·exact ql h _ _
 ·exact h
theorem zo{s:aW}(h:bu s=true)(g:Int)(nm:List UInt8):bu (jV s g nm).1=true:=by
 unfold jV;split
 ·exact Dv h _ _ fun i hi=>ql h _ _
 ·exact h
theorem wR{s:aW}(h:bu s=true)(g:Int)(nm:List UInt8):bu (lN s g nm).1=true:=by
 unfold lN;split
 ·split
  ·rename_i c;exact c
  ·exact h
 ·exact h
theorem xy{s:aW}(h:bu s=true){g:Int}(hg:1≤g∧g≤9999):bu (lO s g).1=true:=by
 unfold lO;split
 ·rename_i c;cases q:me s.boxes g with
  |none=>rw[lQ q];exact h
  |some i=>
   obtain⟨hi,hbi⟩:=iO q;rw[lP q hi];have G:=jx.1 h;have hs:=mD s.boxes i;have hgi:=(ln hbi).2;refine jx.2 ⟨G.eD,G.time,Nat.le_trans hs.length_le G.len,tQ G.gone,fun x hx=> ?_,by have:=wb s.gone g;simp only;omega,fun b hb=> ?_,G.JE.sublist hs,G.names.sublist hs,G.ae.sublist (F7 hs)⟩
   ·rcases nT.1 hx with e|e
    ·rw[e];exact hg
    ·exact G.xk x e
   ·obtain⟨b1,b2,b3⟩:=G.box b (hs.subset hb);refine⟨b1,fun e=> ?_,b3⟩;rcases nT.1 e with e|e
    ·rcases List.mem_append.1 hb with z|z
     ·obtain⟨j,hj,rfl⟩:=bF z;simp only[jn] at hj;rw[List.getElem_take] at e;have:=List.pairwise_iff_getElem.1 G.JE j i (by omega) hi (by omega);omega
     ·obtain⟨j,hj,rfl⟩:=bF z;rw[List.getElem_drop] at e;have:=List.pairwise_iff_getElem.1 G.JE i (i+1+j) hi (by simp at hj;omega) (by omega);omega
    ·exact b2 e
 ·exact h
theorem xZ{b:bz}(hb:Good b){m:Int}(ok:(jY b m).2=true):Good (jY b m).1∧(jY b m).1.gid=b.gid∧(jY b m).1.name=b.name∧(jY b m).1.time=b.time∧(jY b m).1.ae.Sublist b.ae:=by
 unfold jY at ok ⊢;cases q:gh b.ae m with
 |none=>rw[q] at ok;cases ok
 |some k=>
  rw[q] at ok;simp only at ok ⊢;obtain⟨hlt,he,_⟩:=mS q;by_cases c:fQ b=true∧b.gone.length<40
  ·rw[if_pos c];have:=yO hb hlt c.2;rw[he] at this;exact⟨this,rfl,rfl,rfl,mD b.ae k⟩
  ·rw[if_neg c] at ok;cases ok
theorem rL{s:aW}(h:bu s=true)(g m:Int):bu (kN s g m).1=true:=by
 unfold kN;rw[if_pos h];refine Dv h _ _ fun i hi=> ?_
 split
 ·rename_i c;have G:=jx.1 h;obtain⟨b1,b2,b3⟩:=G.box _ (ar hi);obtain⟨t1,t2,t3,t4,t5⟩:=xZ b1 c;generalize (jY s.boxes[i] m).1=b' at*;have e1:(s.boxes.set i b').map (·.gid)=s.boxes.map (·.gid):=by
   rw[fR];apply List.ext_getElem<;>simp[List.getElem_set];intro j hj h2;subst h2;exact t2
  have e2:(s.boxes.set i b').map (·.name)=s.boxes.map (·.name):=by
   rw[fR];apply List.ext_getElem<;>simp[List.getElem_set];intro j hj h2;subst h2;exact t3
  refine jx.2 ⟨G.eD,G.time,by simpa using G.len,G.gone,G.xk,G.nL,fun b hb=> ?_, ?_, ?_, ?_⟩
  ·rcases List.mem_or_eq_of_mem_set hb with q|q
   ·exact G.box b q
   ·subst q;refine⟨t1,by rw[t2];exact b2, ?_⟩;unfold late at b3 ⊢;simp only[fc,List.any_eq_false] at b3 ⊢;rw[t4];exact⟨b3.1,fun x hx=>b3.2 x (t5.subset hx)⟩
  ·have:(s.boxes.map (·.gid)).Pairwise (fun a b:Int=>a<b):=List.pairwise_map.2 G.JE;rw[←e1] at this;exact List.pairwise_map.1 this
  ·have:(s.boxes.map (·.name)).Pairwise (fun a b:List UInt8=>a≠b):=List.pairwise_map.2 G.names;rw[←e2] at this;exact List.pairwise_map.1 this
  ·have e:s.boxes.set i b'=s.boxes.take i++b'::s.boxes.drop (i+1):=List.set_eq_take_append_cons_drop.trans (by rw[if_pos hi]);have e':s.boxes=s.boxes.take i++s.boxes[i]::s.boxes.drop (i+1):=by rw[←bC hi,dm]
   have hm:=G.ae;rw[e'] at hm;simp only;rw[e];refine hm.sublist ?_;simp only[List.flatMap_append,cH];exact List.Sublist.append (List.Sublist.refl _) (List.Sublist.append (t5.map _) (List.Sublist.refl _))
 ·exact h
end Mx
namespace Mx
open Go
variable {M:Nat→Option Body}
structure xX where
 i:Nat
 s:aW
 w:Bool
 v1:Nat
 v2:Nat
 ic:Nat
 q:Int
 n:Nat
structure yk where
 R:List (List T)
 u5:Nat
 u8:Nat
 N:Nat
 base:Nat
def CX(s:xX):List T:=if s.w=true then [I s.s.eD,I s.s.time,.row 15502 s.v1 0 s.s.boxes.length,.row 15503 s.v2 0 s.s.gone.length] else ai s.s
def CU(s:xX):List (Nat×Ob):=if s.w=true then [(15502,⟨s.v1,7,true,false,s.s.boxes.map af⟩),(15503,⟨s.v2,1,true,false,ax s.s.gone⟩)] else []
def CW(c:yk)(s:xX):List (Nat×Ob):=dv c.R s.ic s.q::(5,⟨c.u5,4,true,true,[CX s]⟩)::(8,⟨c.u8,4,true,true,[oz]⟩)::CU s
def CV(c:yk)(i:Nat)(e:List (Nat×V)):List (Nat×V):=(0,.c (.ptr 0 0 0 0))::(2,.c (I c.N))::(3,.c (I c.base))::(5,.c (.ptr 5 c.u5 0 0))::(8,.c (.ptr 8 c.u8 0 0))::(9,.c (I i))::e
def qV(c:yk)(s:xX)(e:List (Nat×V)):St:={t:=CV c s.i e,o:=CW c s,n:=s.n}
def Lr(c:yk)(i:Nat)(s:aW)(w:Bool)(ic:Nat)(q:Int)(e:List (Nat×V))(y:Nat×Nat×Nat):St:=qV c ⟨i,s,w,y.1,y.2.1,ic,q,y.2.2⟩ e
abbrev Br(box gid x:Int):List (Nat×V):=[(10,.c (I box)),(11,.c (I gid)),(13,.c (I x))]
def EV(M:Nat→Option Body)(c:yk)(k:Nat)(s:xX)(box gid x:Int)(s':aW)(ic':Nat)(q':Int):Prop:=
 ∃v1' v2' n',cy (run M) k bc.br (qV c s (Br box gid x))=some (.normal,qV c ⟨s.i,s',true,v1',v2',ic',q',n'⟩ [])
structure NR (s:xX):Prop where
 e7:(s.s.boxes.map af).length=s.s.boxes.length
 e8:(ax s.s.gone).length=s.s.gone.length
theorem Jr(s:xX):NR s:=⟨by simp,aI _⟩
theorem JI(c:yk)(k:Nat)(s:xX)(box gid x:Int)(f ic1 ic2:Nat)(tx:ByteArray)(q1 q2:Int)(s':aW)(ok:Bool)(hb:¬box=0)(hx:¬x=0)(hx6:x<6)(hbase:c.base≤1000)(hi:s.i≤1000)
  (h1:run M 125 [.c (.ptr 0 0 0 0),.c (I 8)] [dv c.R s.ic s.q]=some (.c (I f),[dv c.R ic1 q1]))
  (h2:run M 174 [.c (.ptr 0 0 0 0)] [dv c.R ic1 q1]=some (.c (.str tx),[dv c.R ic2 q2]))
  (h3:run M 279 [.a (ai s.s),.c (I box),.c (I ((c.base:Int)+(s.i:Int))),.c (I f),.c (.str tx)] []=some (.lL [.a (aS s'),.c (.bool ok)],[])):
  EV M c k s box gid x s' ic2 q2:=by
 have e4:IntKind.i64.wrap ((c.base:Int)+(s.i:Int))=(c.base:Int)+(s.i:Int):=wrap_i64 (by omega) (by omega);obtain⟨e7,e8⟩:=Jr s;have e9:(s'.boxes.map af).length=s'.boxes.length:=by simp
 have e10:=aI s'.gone;obtain⟨R,u5,u8,N,base⟩:=c;obtain⟨i,st,w,v1,v2,ic,q,n⟩:=s;simp only at*;simp only[EV,qV,CV,CW,CX,CU,Br];simp only[ai,aS,boxes,ints] at h3 ⊢;have m1:(st.boxes.map af).take st.boxes.length=st.boxes.map af:=ab (by omega);have m2:(ax st.gone).take st.gone.length=ax st.gone:=ab (by omega);generalize s'.boxes.map af=rb' at*;generalize ax s'.gone=rg' at*;generalize st.boxes.map af=rb at*;generalize ax st.gone=rg at*;cases w
 ·simp only[ay,if_false];simp (maxSteps:=9^9) [bc.br,aa,setAt,h1,h2,h3,hb,hx,hx6,e4,e9,e10]
 ·simp only[if_true];simp (maxSteps:=9^9) [bc.br,aa,setAt,h1,h2,h3,hb,hx,hx6,e4,e7,e8,e9,e10,m1,m2]
theorem Hi(c:yk)(k:Nat)(s:xX)(box gid x:Int)(f ic1:Nat)(q1:Int)(s':aW)(ok:Bool)(hb:¬box=0)(hx:¬x=0)(hx6:¬x<6)(hx9:x<9)
  (h1:run M 125 [.c (.ptr 0 0 0 0),.c (I 8)] [dv c.R s.ic s.q]=some (.c (I f),[dv c.R ic1 q1]))
  (h3:run M 280 [.a (ai s.s),.c (I box),.c (I gid),.c (I f)] []=some (.lL [.a (aS s'),.c (.bool ok)],[])):
  EV M c k s box gid x s' ic1 q1:=by
 obtain⟨e7,e8⟩:=Jr s;have e9:(s'.boxes.map af).length=s'.boxes.length:=by simp
 have e10:=aI s'.gone;obtain⟨R,u5,u8,N,base⟩:=c;obtain⟨i,st,w,v1,v2,ic,q,n⟩:=s;simp only at*;simp only[EV,qV,CV,CW,CX,CU,Br];simp only[ai,aS,boxes,ints] at h3 ⊢;have m1:(st.boxes.map af).take st.boxes.length=st.boxes.map af:=ab (by omega);have m2:(ax st.gone).take st.gone.length=ax st.gone:=ab (by omega);generalize s'.boxes.map af=rb' at*;generalize ax s'.gone=rg' at*;generalize st.boxes.map af=rb at*;generalize ax st.gone=rg at*;cases w
 ·simp only[ay,if_false];simp (maxSteps:=9^9) [bc.br,aa,setAt,h1,h3,hb,hx,hx6,hx9,e9,e10]
 ·simp only[if_true];simp (maxSteps:=9^9) [bc.br,aa,setAt,h1,h3,hb,hx,hx6,hx9,e7,e8,e9,e10,m1,m2]
theorem Hm(c:yk)(k:Nat)(s:xX)(box gid x:Int)(s':aW)(ok:Bool)(hb:¬box=0)(hx:x=9)
  (h3:run M 281 [.a (ai s.s),.c (I box),.c (I gid)] []=some (.lL [.a (aS s'),.c (.bool ok)],[])):
  EV M c k s box gid x s' s.ic s.q:=by
 subst hx;obtain⟨e7,e8⟩:=Jr s;have e9:(s'.boxes.map af).length=s'.boxes.length:=by simp
 have e10:=aI s'.gone;obtain⟨R,u5,u8,N,base⟩:=c;obtain⟨i,st,w,v1,v2,ic,q,n⟩:=s;simp only at*;simp only[EV,qV,CV,CW,CX,CU,Br];simp only[ai,aS,boxes,ints] at h3 ⊢;have m1:(st.boxes.map af).take st.boxes.length=st.boxes.map af:=ab (by omega);have m2:(ax st.gone).take st.gone.length=ax st.gone:=ab (by omega);generalize s'.boxes.map af=rb' at*;generalize ax s'.gone=rg' at*;generalize st.boxes.map af=rb at*;generalize ax st.gone=rg at*;cases w
 ·simp only[ay,if_false];simp (maxSteps:=9^9) [bc.br,aa,setAt,h3,hb,e9,e10]
 ·simp only[if_true];simp (maxSteps:=9^9) [bc.br,aa,setAt,h3,hb,e7,e8,e9,e10,m1,m2]
def Mz:List (List UInt8):=[[105,110,98,111,120],[119,111,114,107],[110,101,119],[111,116,104,101,114]]
def MA:List (List UInt8):=[[105,110,98,111,120],[119,111,114,107],[111,108,100]]
theorem Hh(c:yk)(k:Nat)(s:xX)(box gid x:Int)(ic1:Nat)(tx:ByteArray)(q1:Int)(s':aW)(ok:Bool)(hb:¬box=0)(hx:x=10)
  (h1:run M 185 [.c (.ptr 0 0 0 0),.c (.sl false 1 (Mz.map fun s=>[S s]))] [dv c.R s.ic s.q]=some (.c (.str tx),[dv c.R ic1 q1]))
  (h3:run M 282 [.a (ai s.s),.c (I box),.c (.str tx)] []=some (.lL [.a (aS s'),.c (.bool ok)],[])):
  EV M c k s box gid x s' ic1 q1:=by
 subst hx;obtain⟨e7,e8⟩:=Jr s;have e9:(s'.boxes.map af).length=s'.boxes.length:=by simp
 have e10:=aI s'.gone;simp only[Mz,bB,bJ] at h1;obtain⟨R,u5,u8,N,base⟩:=c;obtain⟨i,st,w,v1,v2,ic,q,n⟩:=s;simp only at*;simp only[EV,qV,CV,CW,CX,CU,Br];simp only[ai,aS,boxes,ints] at h3 ⊢;have m1:(st.boxes.map af).take st.boxes.length=st.boxes.map af:=ab (by omega);have m2:(ax st.gone).take st.gone.length=ax st.gone:=ab (by omega);generalize s'.boxes.map af=rb' at*;generalize ax s'.gone=rg' at*;generalize st.boxes.map af=rb at*;generalize ax st.gone=rg at*;cases w
 ·simp only[ay,if_false];simp (maxSteps:=9^9) [bc.br,aa,setAt,h1,h3,hb,e9,e10]
 ·simp only[if_true];simp (maxSteps:=9^9) [bc.br,aa,setAt,h1,h3,hb,e7,e8,e9,e10,m1,m2]
theorem Hj(c:yk)(k:Nat)(s:xX)(box gid x:Int)(ic1:Nat)(tx:ByteArray)(q1:Int)(s':aW)(ok:Bool)(hb:box=0∨x=0)(hbase:c.base≤1000)(hi:s.i≤1000)
  (h1:run M 185 [.c (.ptr 0 0 0 0),.c (.sl false 1 (MA.map fun s=>[S s]))] [dv c.R s.ic s.q]=some (.c (.str tx),[dv c.R ic1 q1]))
  (h3:run M 278 [.a (ai s.s),.c (I ((c.base:Int)+(s.i:Int))),.c (.str tx)] []=some (.lL [.a (aS s'),.c (.bool ok)],[])):
  EV M c k s box gid x s' ic1 q1:=by
 have e4:IntKind.i64.wrap ((c.base:Int)+(s.i:Int))=(c.base:Int)+(s.i:Int):=wrap_i64 (by omega) (by omega);obtain⟨e7,e8⟩:=Jr s;have e9:(s'.boxes.map af).length=s'.boxes.length:=by simp
 have e10:=aI s'.gone;simp only[MA,bB,bJ] at h1;obtain⟨R,u5,u8,N,base⟩:=c;obtain⟨i,st,w,v1,v2,ic,q,n⟩:=s;simp only at*;simp only[EV,qV,CV,CW,CX,CU,Br];simp only[ai,aS,boxes,ints] at h3 ⊢;have m1:(st.boxes.map af).take st.boxes.length=st.boxes.map af:=ab (by omega);have m2:(ax st.gone).take st.gone.length=ax st.gone:=ab (by omega);generalize s'.boxes.map af=rb' at*;generalize ax s'.gone=rg' at*;generalize st.boxes.map af=rb at*;generalize ax st.gone=rg at*;by_cases hb0:box=0
 ·subst hb0;cases w
  ·simp only[ay,if_false];simp (maxSteps:=9^9) [bc.br,aa,setAt,h1,h3,e4,e9,e10]
  ·simp only[if_true];simp (maxSteps:=9^9) [bc.br,aa,setAt,h1,h3,e4,e7,e8,e9,e10,m1,m2]
 ·have hx:x=0:=by omega
  subst hx;cases w
  ·simp only[ay,if_false];simp (maxSteps:=9^9) [bc.br,aa,setAt,h1,h3,hb0,e4,e9,e10]
  ·simp only[if_true];simp (maxSteps:=9^9) [bc.br,aa,setAt,h1,h3,hb0,e4,e7,e8,e9,e10,m1,m2]
theorem Hk(c:yk)(k:Nat)(s:xX)(box gid x:Int)(ic1:Nat)(q1:Int)(s':aW)(ok:Bool)(hb:¬box=0)(hx:11≤x)
  (h1:run M 175 [.c (.ptr 0 0 0 0),.c (I 3)] [dv c.R s.ic s.q]=some (.c (.bool true),[dv c.R ic1 q1]))
  (h3:run M 283 [.a (ai s.s),.c (I box)] []=some (.lL [.a (aS s'),.c (.bool ok)],[])):
  EV M c k s box gid x s' ic1 q1:=by
 have x0:¬x=0:=by omega
 have x6:¬x<6:=by omega
 have x9:¬x<9:=by omega
 have y9:¬x=9:=by omega
 have y10:¬x=10:=by omega
 obtain⟨e7,e8⟩:=Jr s;have e9:(s'.boxes.map af).length=s'.boxes.length:=by simp
 have e10:=aI s'.gone;obtain⟨R,u5,u8,N,base⟩:=c;obtain⟨i,st,w,v1,v2,ic,q,n⟩:=s;simp only at*;simp only[EV,qV,CV,CW,CX,CU,Br];simp only[ai,aS,boxes,ints] at h3 ⊢;have m1:(st.boxes.map af).take st.boxes.length=st.boxes.map af:=ab (by omega);have m2:(ax st.gone).take st.gone.length=ax st.gone:=ab (by omega);generalize s'.boxes.map af=rb' at*;generalize ax s'.gone=rg' at*;generalize st.boxes.map af=rb at*;generalize ax st.gone=rg at*;cases w
 ·simp only[ay,if_false];simp (maxSteps:=9^9) [bc.br,aa,setAt,h1,h3,hb,x0,x6,x9,y9,y10,e9,e10]
 ·simp only[if_true];simp (maxSteps:=9^9) [bc.br,aa,setAt,h1,h3,hb,x0,x6,x9,y9,y10,e7,e8,e9,e10,m1,m2]
theorem Hg(c:yk)(k:Nat)(s:xX)(box gid x:Int)(ic1:Nat)(q1:Int)(hb:¬box=0)(hx:11≤x)
  (h1:run M 175 [.c (.ptr 0 0 0 0),.c (I 3)] [dv c.R s.ic s.q]=some (.c (.bool false),[dv c.R ic1 q1])):
  ∃n',cy (run M) k bc.br (qV c s (Br box gid x))=some (.normal,qV c ⟨s.i,s.s,s.w,s.v1,s.v2,ic1,q1,n'⟩ [(10,.c (I box)),(51,.c (.bool false))]):=by
 have x0:¬x=0:=by omega
 have x6:¬x<6:=by omega
 have x9:¬x<9:=by omega
 have y9:¬x=9:=by omega
 have y10:¬x=10:=by omega
 obtain⟨R,u5,u8,N,base⟩:=c;obtain⟨i,st,w,v1,v2,ic,q,n⟩:=s;simp only at*;simp only[qV,CV,CW,CX,CU,Br];simp only[ai,boxes,ints];generalize st.boxes.map af=rb at*;generalize ax st.gone=rg at*;cases w
 ·simp only[ay,if_false];simp (maxSteps:=9^9) [bc.br,aa,h1,hb,x0,x6,x9,y9,y10]
 ·simp only[if_true];simp (maxSteps:=9^9) [bc.br,aa,h1,hb,x0,x6,x9,y9,y10]
abbrev Hn:List (Nat×V):=[(10,.c (I 0)),(11,.c (I 0))]
theorem JL(c:yk)(k:Nat)(s:xX)(x:Int)(ic1:Nat)(q1:Int)(hbx:s.s.boxes=[])
  (h1:run M 125 [.c (.ptr 0 0 0 0),.c (I 12)] [dv c.R s.ic s.q]=some (.c (I x),[dv c.R ic1 q1]))
  (X:Nat→St) (hX:∀n,cy (run M) k bc.br (qV c ⟨s.i,s.s,s.w,s.v1,s.v2,ic1,q1,n⟩ (Br 0 0 x))=some (.normal,X n)):
  ∃n,cy (run M) k bc.hd (qV c s Hn)=some (.normal,X n):=by
 obtain⟨R,u5,u8,N,base⟩:=c;obtain⟨i,st,w,v1,v2,ic,q,n⟩:=s;simp only at*;simp only[qV,CV,CW,CX,CU,Br,Hn] at hX ⊢;simp only[ai,boxes,ints,hbx,bJ,eJ] at hX ⊢;generalize ax st.gone=rg at*;cases w
 ·simp only[ay,if_false] at hX ⊢;simp (maxSteps:=9^9) [bc.hd,aa,h1,hX];exact⟨_,rfl⟩
 ·simp only[if_true] at hX ⊢;simp (maxSteps:=9^9) [bc.hd,aa,h1,hX];exact⟨_,rfl⟩
theorem JK(c:yk)(k:Nat)(s:xX)(x:Int)(j ic0 ic1:Nat)(q0 q1:Int)(hj:j<s.s.boxes.length)(hm:s.s.boxes[j].ae=[])
  (h0:run M 125 [.c (.ptr 0 0 0 0),.c (I s.s.boxes.length)] [dv c.R s.ic s.q]=some (.c (I j),[dv c.R ic0 q0]))
  (h1:run M 125 [.c (.ptr 0 0 0 0),.c (I 12)] [dv c.R ic0 q0]=some (.c (I x),[dv c.R ic1 q1]))
  (X:Nat→St) (hX:∀n,cy (run M) k bc.br (qV c ⟨s.i,s.s,s.w,s.v1,s.v2,ic1,q1,n⟩ (Br s.s.boxes[j].gid 0 x))=some (.normal,X n)):
  ∃n,cy (run M) k bc.hd (qV c s Hn)=some (.normal,X n):=by
 obtain⟨e7,e8⟩:=Jr s;obtain⟨R,u5,u8,N,base⟩:=c;obtain⟨i,st,w,v1,v2,ic,q,n⟩:=s;simp only at*;have hj':j<st.boxes.length:=hj;have a1:∀hh,(st.boxes.map af)[j]'hh=af st.boxes[j]:=by intro hh;simp
 have m1:(st.boxes.map af).take st.boxes.length=st.boxes.map af:=ab (by omega);have hl:0<st.boxes.length:=by omega
 simp only[qV,CV,CW,CX,CU,Br,Hn] at hX ⊢;simp only[af,ae,ints,hm,bJ] at a1;simp only[ai,boxes,ints] at hX ⊢;generalize st.boxes[j]=b at*;generalize st.boxes.map af=rb at*;generalize ax st.gone=rg at*;generalize ax b.gone=rbg at*;generalize st.boxes.length=nb at*;cases w
 ·simp only[ay,if_false] at hX ⊢;simp (maxSteps:=9^9) [bc.hd,aa,setAt,h0,h1,hX,hl,hj,e7,a1];exact⟨_,rfl⟩
 ·simp only[if_true] at hX ⊢;simp (maxSteps:=9^9) [bc.hd,aa,setAt,h0,h1,hX,hl,hj,e7,a1];exact⟨_,rfl⟩
theorem JJ(c:yk)(k:Nat)(s:xX)(x:Int)(j l ic0 ic1 ic2:Nat)(q0 q1 q2:Int)(hj:j<s.s.boxes.length)(hl:l<s.s.boxes[j].ae.length)
  (h0:run M 125 [.c (.ptr 0 0 0 0),.c (I s.s.boxes.length)] [dv c.R s.ic s.q]=some (.c (I j),[dv c.R ic0 q0]))
  (h2:run M 125 [.c (.ptr 0 0 0 0),.c (I s.s.boxes[j].ae.length)] [dv c.R ic0 q0]=some (.c (I l),[dv c.R ic2 q2]))
  (h1:run M 125 [.c (.ptr 0 0 0 0),.c (I 12)] [dv c.R ic2 q2]=some (.c (I x),[dv c.R ic1 q1]))
  (X:Nat→St) (hX:∀n,cy (run M) k bc.br (qV c ⟨s.i,s.s,s.w,s.v1,s.v2,ic1,q1,n⟩ (Br s.s.boxes[j].gid (s.s.boxes[j].ae[l]).gid x))=some (.normal,X n)):
  ∃n,cy (run M) k bc.hd (qV c s Hn)=some (.normal,X n):=by
 obtain⟨e7,e8⟩:=Jr s;obtain⟨R,u5,u8,N,base⟩:=c;obtain⟨i,st,w,v1,v2,ic,q,n⟩:=s;simp only at*;have hj':j<st.boxes.length:=hj;have hl':l<st.boxes[j].ae.length:=hl;have a1:∀hh,(st.boxes.map af)[j]'hh=af st.boxes[j]:=by intro hh;simp
 have a2:∀hh:l<(st.boxes[j].ae.map ah).length,(st.boxes[j].ae.map ah)[l]'hh=ah (st.boxes[j].ae[l]'hl'):=by intro hh;simp
 have e9:(st.boxes[j].ae.map ah).length=st.boxes[j].ae.length:=by simp
 have m1:(st.boxes.map af).take st.boxes.length=st.boxes.map af:=ab (by omega);have m2:(st.boxes[j].ae.map ah).take st.boxes[j].ae.length=st.boxes[j].ae.map ah:=ab (by omega);have hl0:0<st.boxes.length:=by omega
 have hl1:0<st.boxes[j].ae.length:=by omega
 simp only[qV,CV,CW,CX,CU,Br,Hn] at hX ⊢;simp only[af,ae,ints] at a1;simp only[ah] at a2;simp only[ai,boxes,ints] at hX ⊢;generalize st.boxes[j].ae[l]=m at*;generalize st.boxes[j].ae.map ah=rm at*;generalize st.boxes[j].ae.length=nm at*;generalize st.boxes[j]=b at*;generalize st.boxes.map af=rb at*;generalize ax st.gone=rg at*;generalize ax b.gone=rbg at*;generalize st.boxes.length=nb at*;cases w
 ·simp only[ay,if_false] at hX ⊢;simp (maxSteps:=9^9) [bc.hd,aa,setAt,h0,h1,h2,hX,hl,hl0,hl1,hj,e7,e9,a1,a2];exact⟨_,rfl⟩
 ·simp only[if_true] at hX ⊢;simp (maxSteps:=9^9) [bc.hd,aa,setAt,h0,h1,h2,hX,hl,hl0,hl1,hj,e7,e9,a1,a2];exact⟨_,rfl⟩
abbrev Mp(e:Bool)(g:Int):List (Nat×V):=if e=true then [(10,.c (I g)),(51,.c (.bool false))] else []
theorem Lq(c:yk)(k:Nat)(s:xX)(st':aW)(w':Bool)(ic':Nat)(q':Int)(e:Bool)(g:Int)(hi:s.i<c.N)(hN:c.N≤1000)
  (hX:∀n,∃y,cy (run M) k bc.hd (qV c {s with n:=n} Hn)=some (.normal,Lr c s.i st' w' ic' q' (Mp e g) y)):
  ∃y,cy (run M) k bc.l0 (qV c s [])=some (.normal,Lr c (s.i+1) st' w' ic' q' [] y):=by
 obtain⟨X,hX⟩:=Classical.skolem.1 hX;obtain⟨R,u5,u8,N,base⟩:=c;obtain⟨i,st,w,v1,v2,ic,q,n⟩:=s;simp only at*;have e5:=cz (i:=i) (by omega);simp only[Lr,qV,CV,CW,CX,CU,Hn,Mp] at hX ⊢;simp only[ai,boxes,ints] at hX ⊢;generalize st.boxes.map af=rb at*;generalize ax st.gone=rg at*;generalize st'.boxes.map af=rb' at*;generalize ax st'.gone=rg' at*;cases w<;>cases w'<;>cases e<;>simp only[ay,if_false,if_true] at hX ⊢<;>simp (maxSteps:=9^9) [bc.l0,hX,hi,e5]<;>exact⟨_,_,_,⟨⟨rfl,rfl⟩,rfl,rfl⟩,rfl⟩
theorem JM(c:yk)(k:Nat)(s:xX)(hi:¬s.i<c.N):
  ∃n',cy (run M) k bc.l0 (qV c s [])=some (.exit 0,qV c {s with n:=n'} [(16,.c (.bool false))]):=by
 obtain⟨R,u5,u8,N,base⟩:=c;obtain⟨i,st,w,v1,v2,ic,q,n⟩:=s;simp only at*;simp only[qV,CV,CW,CX,CU];simp only[ai,boxes,ints];generalize st.boxes.map af=rb at*;generalize ax st.gone=rg at*;cases w<;>simp only[ay,if_false,if_true]<;>simp (maxSteps:=9^9) [bc.l0,hi]
end Mx
namespace Mx
open Go
def NP(b:bz)(g:Int):Prop:=b.gid=g∨g∈b.gone∨∃m∈b.ae,m.gid=g
def Kn(s:aW)(g:Int):Prop:=(∃b∈s.boxes,NP b g)∨g∈s.gone
def wQ:List (List UInt8):=[[105,110,98,111,120],[119,111,114,107],[110,101,119],[111,116,104,101,114],[111,108,100]]
structure vH (b:bz):Prop where
 name:b.name∈wQ
 kn:∀g,NP b g→100≤g∧g≤999
structure Used (n:Nat) (s:aW):Prop where
 ok:bu s=true
 time:s.time≤n
 gone:s.gone.length≤n
 box:∀b∈s.boxes,vH b
 kn:∀g∈s.gone,100≤g∧g≤999
theorem Used.all{n:Nat}{s:aW}(h:Used n s){g:Int}(k:Kn s g):100≤g∧g≤999:=by
 rcases k with⟨b,h1,h2⟩|k
 ·exact(h.box b h1).kn g h2
 ·exact h.kn g k
theorem Used.mono{n m:Nat}{s:aW}(h:Used n s)(hm:n≤m):Used m s:=⟨h.ok,by have:=h.time;omega,by have:=h.gone;omega,h.box,h.kn⟩
theorem Ac{w:Int}(h1:1≤w)(h2:w≤2):Used 0 ⟨w,0,[],[]⟩:=
 ⟨jx.2 ⟨⟨h1,h2⟩,by simp,by simp,List.Pairwise.nil,by simp,by simp,by simp,List.Pairwise.nil,List.Pairwise.nil,List.nodup_nil⟩,by simp,by simp,by simp,by simp⟩
theorem qh{n:Nat}{s:aW}(h:Used n s)(i:Nat){b:bz}(hb:vH b):Used (n+1) (stamped s i b).1:=by
 have hok:=ql h.ok i b;unfold stamped at hok ⊢;split
 ·rename_i c;rw[if_pos c] at hok;refine⟨hok,by have:=h.time;simp only[gS];omega,by have:=h.gone;simp only[gS];omega,fun x hx=> ?_,h.kn⟩;rcases List.mem_or_eq_of_mem_set hx with q|q
  ·exact h.box x q
  ·rw[q];exact hb
 ·exact h.mono (by omega)
theorem zc{n:Nat}{s:aW}(h:Used n s)(g:Int)(f:Nat→bz→aW×Bool)(hf:∀i (hi:i<s.boxes.length),s.boxes[i].gid=g→Used (n+1) (f i s.boxes[i]).1):Used (n+1) (at_ s g f).1:=by
 cases c:me s.boxes g with
 |none=>rw[lQ c];exact h.mono (by omega)
 |some i=>
  obtain⟨hi,hb⟩:=iO c;rw[lP c hi];exact hf i hi (ln hb).2
theorem DO{b:bz}(h:vH b){m:Int}(hm:100≤m∧m≤999)(f:Int)(x:List UInt8)(t w:Int):vH (kF b m f x t w).1:=by
 unfold kF;split
 ·refine⟨h.name,fun g k=> ?_⟩;rcases k with k|k|⟨y,hy,k⟩
  ·exact h.kn g (.inl k)
  ·exact h.kn g (.inr (.inl k))
  ·rcases List.mem_append.1 hy with q|q
   ·exact h.kn g (.inr (.inr ⟨y,q,k⟩))
   ·simp only[fy] at q;subst q;rw[←k];exact hm
 ·exact h
theorem By{b:bz}(h:vH b)(m n t w:Int):vH (jJ b m n t w).1:=by
 unfold jJ;split
 ·exact h
 ·rename_i k hk;split
  ·exact h
  ·rename_i y hy;split
   ·refine⟨h.name,fun g k=> ?_⟩;rcases k with k|k|⟨z,hz,k⟩
    ·exact h.kn g (.inl k)
    ·exact h.kn g (.inr (.inl k))
    ·rcases List.mem_or_eq_of_mem_set hz with q|q
     ·exact h.kn g (.inr (.inr ⟨z,q,k⟩))
     ·subst q;exact h.kn g (.inr (.inr ⟨y,iZ hy,k⟩))
   ·exact h
theorem Bx{b:bz}(h:vH b)(m:Int):vH (jY b m).1:=by
 unfold jY;cases q:gh b.ae m with
 |none=>exact h
 |some k=>
  obtain⟨h1,h2,_⟩:=mS q;simp only;split
  ·refine⟨h.name,fun g z=> ?_⟩;rcases z with z|z|⟨y,hy,z⟩
   ·exact h.kn g (.inl z)
   ·rcases nT.1 z with e|e
    ·exact h.kn g (.inr (.inr ⟨_,ar h1,by rw[e];exact h2⟩))
    ·exact h.kn g (.inr (.inl e))
   ·exact h.kn g (.inr (.inr ⟨y,(mD b.ae k).subset hy,z⟩))
  ·exact h
theorem E4{n:Nat}{s:aW}(h:Used n s)(g:Int){m:Int}(hm:100≤m∧m≤999)(f:Int)(x:List UInt8):Used (n+1) (lM s g m f x).1:=by
 unfold lM;split
 ·refine zc h _ _ fun i hi _=> ?_
  split
  ·exact qh h _ (DO (h.box _ (ar hi)) hm _ _ _ _)
  ·exact h.mono (by omega)
 ·exact h.mono (by omega)
theorem DK{n:Nat}{s:aW}(h:Used n s)(g m f:Int):Used (n+1) (kM s g m f).1:=by
 unfold kM;rw[if_pos h.ok];refine zc h _ _ fun i hi _=> ?_
 split
 ·exact qh h _ (By (h.box _ (ar hi)) _ _ _ _)
 ·exact h.mono (by omega)
theorem DN{n:Nat}{s:aW}(h:Used n s)(g m:Int):Used (n+1) (kN s g m).1:=by
 have hok:=rL h.ok g m;unfold kN at hok ⊢;rw[if_pos h.ok] at hok ⊢;cases c:me s.boxes g with
 |none=>rw[lQ c];exact h.mono (by omega)
 |some i=>
  obtain⟨hi,hb⟩:=iO c;rw[lP c hi] at hok ⊢;split
  ·rename_i z;rw[if_pos z] at hok;refine⟨hok,by have:=h.time;simp only;omega,by have:=h.gone;simp only;omega,fun x hx=> ?_,h.kn⟩;rcases List.mem_or_eq_of_mem_set hx with q|q
   ·exact h.box x q
   ·rw[q];exact Bx (h.box _ (ar hi)) m
  ·exact h.mono (by omega)
theorem DJ{n:Nat}{s:aW}(h:Used n s)(g:Int){nm:List UInt8}(hn:nm∈wQ):Used (n+1) (jV s g nm).1:=by
 unfold jV;split
 ·exact zc h _ _ fun i hi _=>qh h _ ⟨hn,fun g k=>(h.box _ (ar hi)).kn g k⟩
 ·exact h.mono (by omega)
theorem DL{n:Nat}{s:aW}(h:Used n s){g:Int}(hg:100≤g∧g≤999){nm:List UInt8}(hn:nm∈wQ):Used (n+1) (lN s g nm).1:=by
 have hok:=wR h.ok g nm;unfold lN at hok ⊢;split
 ·rename_i c;rw[if_pos c] at hok;split
  ·rename_i z;rw[if_pos z] at hok;refine⟨hok,by have:=h.time;simp only[iz];omega,by have:=h.gone;simp only[iz];omega,fun x hx=> ?_,h.kn⟩;simp only[iz,iu,fJ,fy] at hx;rcases hx with (q|q)|q
   ·exact h.box x q.1
   ·rw[q];refine⟨hn,fun g k=> ?_⟩;rcases k with k|k|⟨m,hm,k⟩
    ·rw[←k];exact hg
    ·simp[mQ] at k
    ·simp[mQ] at hm
   ·exact h.box x q.1
  ·exact h.mono (by omega)
 ·exact h.mono (by omega)
theorem DM{n:Nat}{s:aW}(h:Used n s){g:Int}(hg:100≤g∧g≤999):Used (n+1) (lO s g).1:=by
 have hok:=xy h.ok (g:=g) ⟨by omega,by omega⟩;unfold lO at hok ⊢;split
 ·rename_i c;rw[if_pos c] at hok;cases q:me s.boxes g with
  |none=>rw[lQ q];exact h.mono (by omega)
  |some i=>
   obtain⟨hi,hbi⟩:=iO q;rw[lP q hi] at hok ⊢;have:=wb s.gone g;refine⟨hok,by have:=h.time;simp only;omega,by have:=h.gone;simp only;omega,fun x hx=>h.box x ((mD s.boxes i).subset hx),fun x hx=> ?_⟩;rcases nT.1 hx with e|e
   ·rw[e];exact hg
   ·exact h.kn x e
 ·exact h.mono (by omega)
theorem nR{s:aW}(h:bu s=true):m7 s:=by
 have G:=jx.1 h;have H:=eT h;exact⟨⟨by have:=G.len;omega,by have:=G.nL;omega,fun b hb=>(H.boxes.j2 b hb).tM,by have:=om h;omega⟩,by have:=G.time;omega,by have:=G.time;omega⟩
structure qZ (p:Bool) (n:Nat) (s:aW):Prop where
 ok:bu s=true
 use:p=true→Used n s
theorem qZ.mono{p:Bool}{n m:Nat}{s:aW}(h:qZ p n s)(hm:n≤m):qZ p m s:=⟨h.ok,fun e=>(h.use e).mono hm⟩
theorem yo{w:Int}(h1:1≤w)(h2:w≤2)(p:Bool):qZ p 0 ⟨w,0,[],[]⟩:=⟨(Ac h1 h2).ok,fun _=>Ac h1 h2⟩
theorem qZ.box{p:Bool}{n:Nat}{s:aW}(h:qZ p n s){b:bz}(hb:b∈s.boxes):(1≤b.gid∧b.gid≤9999)∧(p=true→100≤b.gid∧b.gid≤999):=
 ⟨((jx.1 h.ok).box b hb).1.gid,fun e=>((h.use e).box b hb).kn _ (.inl rfl)⟩
end Mx
namespace Mx
open Go
variable {M:Nat→Option Body}
structure NF (M:Nat→Option Body):Prop where
 below:aG.k M
 text:eU.k M
 once:iD.k M
 pick:dG.k M
 make:bZ.k M
 put:dI.k M
 mark:dy.k M
 drop:dz.k M
 name:cK.k M
 Nk:dK.k M
theorem zb(K:NF M)(c:yk)(hR:Bytes c.R)(k:Nat)(p:Bool)(m:Nat)(st:aW)(hs:qZ p m st)(i ic:Nat)(q:Int)(hic:ic≤c.R.length)(hb1:100≤c.base)(hb2:c.base+i≤999)(w:Bool)(v1 v2:Nat)(box gid:Int)(x:Nat)
  (hbox:box=0∨(1≤box∧box≤9999)∧(p=true→100≤box∧box≤999)):
  ∃(e:Bool) (st':aW) (w':Bool) (ic':Nat) (q':Int),qZ p (m+1) st'∧ic'≤c.R.length∧(box=0∨w=true→w'=true)∧
   ∀n,∃y,cy (run M) k bc.br (qV c ⟨i,st,w,v1,v2,ic,q,n⟩ (Br box gid x))=some (.normal,Lr c i st' w' ic' q' (Mp e box) y):=by
 have hg:100≤(c.base:Int)+(i:Int)∧(c.base:Int)+(i:Int)≤999:=⟨by omega,by omega⟩;have n3:∀s∈MA,s∈wQ∧s.length≤12:=by decide
 have n4:∀s∈Mz,s∈wQ∧s.length≤12:=by decide
 by_cases c0:box=0∨x=0
 ·obtain⟨nm,ic1,q1,hnm,hc1,h1⟩:=dG.al K.pick hR ic q hic MA (by decide) (by decide);have h3:=bZ.al K.make st (nR hs.ok) ((c.base:Int)+(i:Int)) nm (by have:=(n3 nm hnm).2;omega);refine⟨false,_,true,ic1,q1,⟨wR hs.ok _ _,fun z=>DL (hs.use z) hg (n3 nm hnm).1⟩,hc1,fun _=>rfl,fun n=> ?_⟩;obtain⟨v1',v2',n',h⟩:=Hj c k ⟨i,st,w,v1,v2,ic,q,n⟩ box gid x ic1 _ q1 _ _ (by omega) (by omega) (by simp only;omega) h1 h3;exact⟨(v1',v2',n'),h⟩
 have d0:¬box=0:=fun e=>c0 (.inl e)
 have d1:¬(x:Int)=0:=fun e=>c0 (.inr (by omega))
 by_cases c6:x<6
 ·obtain⟨f,ic1,q1,hf,hc1,h1⟩:=aG.al K.below hR ic q hic 8 (by omega) (by omega);simp only[aM] at h1;obtain⟨tx,ic2,q2,htx,hc2,h2⟩:=eU.al K.text hR ic1 q1 hc1;have h3:=dI.al K.put st (nR hs.ok) box ((c.base:Int)+(i:Int)) f tx;refine⟨false,_,true,ic2,q2,⟨BY hs.ok _ _ _ _,fun z=>E4 (hs.use z) box hg f tx⟩,hc2,fun _=>rfl,fun n=> ?_⟩;obtain⟨v1',v2',n',h⟩:=JI c k ⟨i,st,w,v1,v2,ic,q,n⟩ box gid x f ic1 ic2 _ q1 q2 _ _ d0 d1 (by omega) (by omega) (by simp only;omega) h1 h2 h3;exact⟨(v1',v2',n'),h⟩
 by_cases c9:x<9
 ·obtain⟨f,ic1,q1,hf,hc1,h1⟩:=aG.al K.below hR ic q hic 8 (by omega) (by omega);simp only[aM] at h1;have h3:=dy.al K.mark st (nR hs.ok) box gid f;refine⟨false,_,true,ic1,q1,⟨AE hs.ok _ _ _,fun z=>DK (hs.use z) box gid f⟩,hc1,fun _=>rfl,fun n=> ?_⟩;obtain⟨v1',v2',n',h⟩:=Hi c k ⟨i,st,w,v1,v2,ic,q,n⟩ box gid x f ic1 q1 _ _ d0 d1 (by omega) (by omega) h1 h3;exact⟨(v1',v2',n'),h⟩
 by_cases c10:x=9
 ·have h3:=dz.al K.drop st (nR hs.ok) box gid;refine⟨false,_,true,ic,q,⟨rL hs.ok _ _,fun z=>DN (hs.use z) box gid⟩,hic,fun _=>rfl,fun n=> ?_⟩;obtain⟨v1',v2',n',h⟩:=Hm c k ⟨i,st,w,v1,v2,ic,q,n⟩ box gid x _ _ d0 (by omega) h3;exact⟨(v1',v2',n'),h⟩
 by_cases c11:x=10
 ·obtain⟨nm,ic1,q1,hnm,hc1,h1⟩:=dG.al K.pick hR ic q hic Mz (by decide) (by decide);have h3:=cK.al K.name st (nR hs.ok) box nm (by have:=(n4 nm hnm).2;omega);refine⟨false,_,true,ic1,q1,⟨zo hs.ok _ _,fun z=>DJ (hs.use z) box (n4 nm hnm).1⟩,hc1,fun _=>rfl,fun n=> ?_⟩;obtain⟨v1',v2',n',h⟩:=Hh c k ⟨i,st,w,v1,v2,ic,q,n⟩ box gid x ic1 _ q1 _ _ d0 (by omega) h1 h3;exact⟨(v1',v2',n'),h⟩
 obtain⟨z,ic1,q1,hc1,h1⟩:=iD.al K.once hR ic q hic 3 (by omega) (by omega);simp only[aM] at h1;cases z
 ·refine⟨true,st,w,ic1,q1,hs.mono (by omega),hc1,fun h=>h.resolve_left d0,fun n=> ?_⟩;obtain⟨n',h⟩:=Hg c k ⟨i,st,w,v1,v2,ic,q,n⟩ box gid x ic1 q1 d0 (by omega) h1;exact⟨(v1,v2,n'),h⟩
 ·have h3:=dK.al K.Nk st (nR hs.ok) box;refine⟨false,_,true,ic1,q1,⟨xy hs.ok (hbox.resolve_left d0).1,fun z=>DM (hs.use z) ((hbox.resolve_left d0).2 z)⟩,hc1,fun _=>rfl,fun n=> ?_⟩;obtain⟨v1',v2',n',h⟩:=Hk c k ⟨i,st,w,v1,v2,ic,q,n⟩ box gid x ic1 q1 _ _ d0 (by omega) h1 h3;exact⟨(v1',v2',n'),h⟩
structure KQ (c:yk) (p:Bool) (m:Nat) (s0:aW) (s:xX):Prop where
 i:s.i≤c.N
 use:qZ p (m+s.i) s.s
 ic:s.ic≤c.R.length
 w:s0.boxes≠[]∨(s.i=0∧s.s=s0)∨s.w=true
theorem E3(K:NF M)(c:yk)(hR:Bytes c.R)(k:Nat)(p:Bool)(m:Nat)(s0:aW)(hb1:100≤c.base)(hb2:c.base+c.N≤1000)(s:xX)(hs:KQ c p m s0 s)(hi:s.i<c.N):
  ∃s',cy (run M) k bc.l0 (qV c s [])=some (.normal,qV c s' [])∧KQ c p m s0 s'∧s'.i=s.i+1:=by
 have fin:∀(box:Int) (e:Bool) (st':aW) (w':Bool) (ic':Nat) (q':Int),qZ p (m+s.i+1) st'→ic'≤c.R.length→(s0.boxes≠[]∨w'=true)→
   (∀n,∃y,cy (run M) k bc.hd (qV c {s with n:=n} Hn)=some (.normal,Lr c s.i st' w' ic' q' (Mp e box) y))→
   ∃s',cy (run M) k bc.l0 (qV c s [])=some (.normal,qV c s' [])∧KQ c p m s0 s'∧s'.i=s.i+1:=by
  intro box e st' w' ic' q' hu hc hw hX;obtain⟨y,hy⟩:=Lq c k s st' w' ic' q' e box hi (by omega) hX;exact⟨⟨s.i+1,st',w',y.1,y.2.1,ic',q',y.2.2⟩,hy,⟨by simp only;omega,hu,hc,hw.imp_right .inr⟩,rfl⟩
 by_cases hbx:s.s.boxes=[]
 ·obtain⟨x,ic1,q1,hx,hc1,h1⟩:=aG.al K.below hR s.ic s.q hs.ic 12 (by omega) (by omega);simp only[aM] at h1;obtain⟨e,st',w',ic',q',hu,hc',hw,hd⟩:=zb K c hR k p (m+s.i) s.s hs.use s.i ic1 q1 hc1 hb1 (by omega) s.w s.v1 s.v2 0 0 x (.inl rfl);obtain⟨Y,hY⟩:=Classical.skolem.1 hd;exact fin 0 e st' w' ic' q' hu hc' (.inr (hw (.inl rfl))) fun n=>by
   obtain⟨n1,h⟩:=JL c k {s with n:=n} x ic1 q1 hbx h1 _ hY;exact⟨_,h⟩
 have hne:s0.boxes≠[]∨s.w=true:=by
  rcases hs.w with h|⟨_,h⟩|h
  ·exact .inl h
  ·left;rw[←h];exact hbx
  ·exact .inr h
 have hl:0<s.s.boxes.length:=List.length_pos_iff.2 hbx;have G:=jx.1 hs.use.ok;obtain⟨j,ic0,q0,hj,hc0,h0⟩:=aG.al K.below hR s.ic s.q hs.ic s.s.boxes.length hl (by have:=G.len;omega);have hbox:=hs.use.box (ar hj);by_cases hml:s.s.boxes[j].ae=[]
 ·obtain⟨x,ic1,q1,hx,hc1,h1⟩:=aG.al K.below hR ic0 q0 hc0 12 (by omega) (by omega);simp only[aM] at h1;obtain⟨e,st',w',ic',q',hu,hc',hw,hd⟩:=zb K c hR k p (m+s.i) s.s hs.use s.i ic1 q1 hc1 hb1 (by omega) s.w s.v1 s.v2 s.s.boxes[j].gid 0 x (.inr hbox);obtain⟨Y,hY⟩:=Classical.skolem.1 hd;exact fin _ e st' w' ic' q' hu hc' (hne.imp_right fun h=>hw (.inr h)) fun n=>by
   obtain⟨n1,h⟩:=JK c k {s with n:=n} x j ic0 ic1 q0 q1 hj hml h0 h1 _ hY;exact⟨_,h⟩
 ·have hl2:0<s.s.boxes[j].ae.length:=List.length_pos_iff.2 hml;have GB:=(G.box _ (ar hj)).1;obtain⟨l,ic2,q2,hl,hc2,h2⟩:=aG.al K.below hR ic0 q0 hc0 s.s.boxes[j].ae.length hl2 (by have:=GB.len;omega);obtain⟨x,ic1,q1,hx,hc1,h1⟩:=aG.al K.below hR ic2 q2 hc2 12 (by omega) (by omega);simp only[aM] at h1;obtain⟨e,st',w',ic',q',hu,hc',hw,hd⟩:=zb K c hR k p (m+s.i) s.s hs.use s.i ic1 q1 hc1 hb1 (by omega) s.w s.v1 s.v2 s.s.boxes[j].gid (s.s.boxes[j].ae[l]).gid x (.inr hbox);obtain⟨Y,hY⟩:=Classical.skolem.1 hd;exact fin _ e st' w' ic' q' hu hc' (hne.imp_right fun h=>hw (.inr h)) fun n=>by
   obtain⟨n1,h⟩:=JJ c k {s with n:=n} x j l ic0 ic1 ic2 q0 q1 q2 hj hl h0 h2 h1 _ hY;exact⟨_,h⟩
theorem Hl(K:NF M)(c:yk)(hR:Bytes c.R)(k:Nat)(p:Bool)(m:Nat)(s0:aW)(hb1:100≤c.base)(hb2:c.base+c.N≤1000)(s:xX)(hs:KQ c p m s0 s)(hk:c.N<k):
  ∃s',fi (cy (run M) k bc.l0) k (qV c s [])=some (.exit 0,qV c s' [(16,.c (.bool false))])∧KQ c p m s0 s'∧s'.i=c.N:=by
 obtain⟨r,hr,s',rfl,hI⟩:=kC (f:=cy (run M) k bc.l0) (fun s=>qV c s []) (KQ c p m s0) (fun s=>c.N-s.i) (fun r=>∃s',r=(.exit 0,qV c s' [(16,.c (.bool false))])∧KQ c p m s0 s'∧s'.i=c.N)
  (fun s hs=>by
   by_cases hi:s.i<c.N
   ·left;obtain⟨s',h1,h2,h3⟩:=E3 K c hR k p m s0 hb1 hb2 s hs hi;exact⟨s',h1,h2,by omega⟩
   ·right;obtain⟨n',h⟩:=JM (M:=M) c k s hi;have:=hs.i;exact⟨_,h,by simp,_,rfl,⟨hs.i,hs.use,hs.ic,hs.w⟩,by simp only;omega⟩) k s hs (by omega)
 exact⟨s',hr,hI⟩
abbrev si(w:Bool)(s:aW):List T:=[I s.eD,I s.time,.sl w 7 (s.boxes.map af),.sl w 1 (ax s.gone)]
theorem bc.al(h:bc.k M){R:List (List T)}(hR:Bytes R)(i:Nat)(q:Int)(hi:i≤R.length)(p:Bool)(m:Nat)(s:aW)(hs:qZ p m s)(N base:Nat)(h1:100≤base)(h2:base+N≤1000):
  ∃(s':aW) (w:Bool) (i':Nat) (q':Int),qZ p (m+N) s'∧(s.boxes=[]→0<N→w=true)∧i'≤R.length∧
   run M 244 [.c (.ptr 0 0 0 0),.a (ai s),.c (I N),.c (I base)] [dv R i q]=some (.a (si w s'),[dv R i' q']):=by
 obtain⟨h0,kb,kt,ko,kp,km,kpu,kma,kdm,kn,kdb⟩:=h;obtain⟨⟨i',s',w,v1,v2,ic,q',n⟩,hr,hI,hi'⟩:=Hl ⟨kb,kt,ko,kp,km,kpu,kma,kdm,kn,kdb⟩ ⟨R,2000000,2000016,N,base⟩ hR (N+1) p m s h1 h2 ⟨0,s,false,0,0,i,q,2000048⟩ ⟨Nat.zero_le _,hs,hi,.inr (.inl ⟨rfl,rfl⟩)⟩ (by simp);obtain⟨_,hu,hc,hw⟩:=hI;simp only at hi' hu hc hw;subst hi';refine⟨s',w,ic,q',hu,fun e hN=> ?_,hc,ao (b:=bc.m) h0 ⟨i'+1, ?_⟩⟩
 ·rcases hw with h|⟨h,_⟩|h
  ·exact(h e).elim
  ·omega
  ·exact h
 have e0:((0:Nat):Int)=0:=rfl;have e7:(s'.boxes.map af).length=s'.boxes.length:=by simp
 have e8:=aI s'.gone;have m1:(s'.boxes.map af).take s'.boxes.length=s'.boxes.map af:=ab (by omega);have m2:(ax s'.gone).take s'.gone.length=ax s'.gone:=ab (by omega);simp only[qV,CV,CW,CX,CU,e0] at hr;simp only[ai,si,boxes,ints] at hr ⊢;generalize s'.boxes.map af=rb' at*;generalize ax s'.gone=rg' at*;generalize s.boxes.map af=rb at*;generalize ax s.gone=rg at*;cases w
 ·simp only[ay,if_false] at hr;simp (maxSteps:=9^9) [a8,bc.m,bc.b,aa,setAt,hr]
 ·simp only[ay,if_false,if_true] at hr;simp (maxSteps:=9^9) [a8,bc.m,bc.b,aa,setAt,hr,e7,e8,m1,m2]
theorem gn.al(h:gn.k M)(w:Int):run M 113 [.c (I w)] []=some (.a [I w,I 0,.sl true 7 [],.sl true 1 []],[]):=by
 refine ao (b:=gn.m) h ⟨0, ?_⟩;simp (maxSteps:=9^9) [a8,gn.m,gn.b,aa,setAt]
theorem iv.al(h:iv.k M){R:List (List T)}(hR:Bytes R)(i:Nat)(q:Int)(hi:i≤R.length):
  ∃(s:aW) (i':Nat) (q':Int),Used 13 s∧i'≤R.length∧run M 188 [.c (.ptr 0 0 0 0)] [dv R i q]=some (.a (aS s),[dv R i' q']):=by
 obtain⟨h0,kn,kb,ku⟩:=h;obtain⟨x,i1,q1,hx,hc1,h1⟩:=aG.al kb hR i q hi 12 (by omega) (by omega);obtain⟨y,i2,q2,hy,hc2,h2⟩:=aG.al kb hR i1 q1 hc1 2 (by omega) (by omega);simp only[aM] at h1 h2;have h3:=gn.al kn ((1+y:Nat):Int);obtain⟨s,w,i3,q3,hu,hw,hc3,h4⟩:=bc.al ku hR i2 q2 hc2 true 0 ⟨((1+y:Nat):Int),0,[],[]⟩ (yo (by omega) (by omega) true) (2+x) 100 (by omega) (by omega);have hw:=hw rfl (by omega);subst hw;refine⟨s,i3,q3,(hu.use rfl).mono (by omega),hc3,ao (b:=iv.m) h0 ⟨0, ?_⟩⟩;have e1:IntKind.i64.wrap (2+(x:Int))=((2+x:Nat):Int):=wrap_i64 (by omega) (by omega);have e2:IntKind.i64.wrap (1+(y:Int))=((1+y:Nat):Int):=wrap_i64 (by omega) (by omega);simp only[ai,si,aS,boxes,ints,bJ,mU,aM] at h4 ⊢;generalize ((1+y:Nat):Int)=y1 at*;generalize ((2+x:Nat):Int)=x1 at*;have e7:(s.boxes.map af).length=s.boxes.length:=by simp
 have e8:=aI s.gone;generalize s.boxes.map af=rb' at*;generalize ax s.gone=rg' at*;simp (maxSteps:=9^9) [a8,iv.m,iv.b,aa,setAt,h1,h2,h3,h4,e1,e2,e7,e8,ab]
structure G0 (b:bz):Prop where
 kU:iw b
 m:b.ae.length≤10
 g:b.gone.length≤50
structure n6 (s:aW):Prop where
 t:m7 s
 b:s.boxes.length≤5
 g:s.gone.length≤21
 box:∀b∈s.boxes,G0 b
theorem tj{s:aW}(t: -1000000≤s.time∧s.time≤1000000)(b:s.boxes.length≤5)(g:s.gone.length≤21)(box:∀b∈s.boxes,G0 b):n6 s:=by
 have key:∀l:List bz,(∀x∈l,x.ae.length≤10)→(l.flatMap b_).length≤10*l.length:=by
  intro l
  induction l with
  |nil=>intro _;simp
  |cons x l ih=>
   intro h;have h1:=ih fun y hy=>h y (bq _ hy)
   have h2:=h x (bh ..);simp only[cH,aC,b_,gD,bT] at h1 ⊢;omega
 have:=key s.boxes fun x hx=>(box x hx).m
 exact⟨⟨⟨by omega,by omega,fun x hx=>(box x hx).kU,by omega⟩,by omega,by omega⟩,b,g,box⟩
theorem Good.EX{b:bz}(h:Good b):G0 b:=⟨h.tM,h.len,by have:=h.nL;omega⟩
theorem Used.EX{n:Nat}{s:aW}(h:Used n s):n6 s:=by
 have G:=jx.1 h.ok;exact tj ⟨by have:=G.time;omega,by have:=G.time;omega⟩ G.len (by have:=G.nL;omega) fun b hb=>(G.box b hb).1.EX
theorem cC.al(h:cC.k M){R:List (List T)}(hR:Bytes R)(i:Nat)(q:Int)(hi:i≤R.length):
  ∃(s:aW) (i':Nat) (q':Int),n6 s∧i'≤R.length∧run M 443 [.c (.ptr 0 0 0 0)] [dv R i q]=some (.a (aS s),[dv R i' q']):=by
 obtain⟨h0,kb,ka,ks,kc⟩:=h;obtain⟨x,i1,q1,hx,hc1,h1⟩:=aG.al kb hR i q hi 14 (by omega) (by omega);obtain⟨y,i2,q2,hy,hc2,h2⟩:=aG.al kb hR i1 q1 hc1 60 (by omega) (by omega);simp only[aM] at h1 h2;obtain⟨s,i3,q3,hu,hc3,h3⟩:=iv.al ks hR i2 q2 hc2;have hW:=hu.EX;have h4:=cd.al kc s hW.t.kU;have G:=jx.1 hu.ok;have hbl:=hW.b;have e7:(s.boxes.map af).length=s.boxes.length:=by simp
 have e8:=aI s.gone;have m1:(s.boxes.map af).take s.boxes.length=s.boxes.map af:=ab (by omega);have m2:(ax s.gone).take s.gone.length=ax s.gone:=ab (by omega);by_cases c0:x=0
 ·have d0:(x:Int)=0:=by omega
  obtain⟨z,hz,ez⟩:=kG y 4 (by omega);simp only[aM] at ez;refine⟨{s with eD:=z},i3,q3,⟨⟨⟨hW.t.kU.b,hW.t.kU.g,hW.t.kU.i,hW.t.kU.s⟩,hW.t.time⟩,hW.b,hW.g,hW.box⟩,hc3,ao (b:=cC.m) h0 ⟨0, ?_⟩⟩
  simp only[ai,aS,boxes,ints] at h3 h4 ⊢;generalize s.boxes.map af=rb at*;generalize ax s.gone=rg at*;simp (maxSteps:=9^9) [a8,cC.m,cC.b,aa,setAt,h1,h2,h3,h4,c0,e7,e8,m1,m2,ez]
 have d0:¬(x:Int)=0:=by omega
 by_cases c1:x=1
 ·have d1:(x:Int)=1:=by omega
  obtain⟨z,hz,ez⟩:=kG y 4 (by omega);simp only[aM] at ez;have hz4:z=0∨z=1∨z=2∨z=3:=by omega
  have key:∀t:Int,-1000000≤t∧t≤1000000→([[I (-1)],[I 0],[I 100000],[I 100001]]:List (List T))[z]? =some [I t]→
    ∃(s:aW) (i':Nat) (q':Int),n6 s∧i'≤R.length∧run M 443 [.c (.ptr 0 0 0 0)] [dv R i q]=some (.a (aS s),[dv R i' q']):=by
   intro t ht hg;have hg2:∀hh,([[I (-1)],[I 0],[I 100000],[I 100001]]:List (List T))[z]'hh=[I t]:=fun hh=>by
    rw[bW hh] at hg;exact Option.some.inj hg
   refine⟨{s with time:=t},i3,q3,tj ht hW.b hW.g hW.box,hc3,ao (b:=cC.m) h0 ⟨0, ?_⟩⟩
   simp only[ai,aS,boxes,ints] at h3 h4 ⊢;generalize s.boxes.map af=rb at*;generalize ax s.gone=rg at*;simp (maxSteps:=9^9) [a8,cC.m,cC.b,aa,setAt,h1,h2,h3,h4,c1,e7,e8,m1,m2,ez,hz,hg2]
  rcases hz4 with rfl|rfl|rfl|rfl
  ·exact key (-1) (by omega) rfl
  ·exact key 0 (by omega) rfl
  ·exact key 100000 (by omega) rfl
  ·exact key 100001 (by omega) rfl
 have d1:¬(x:Int)=1:=by omega
 by_cases c2:x=2
 ·have d2:(x:Int)=2:=by omega
  by_cases hl:s.boxes=[]
  ·refine⟨s,i3,q3,hW,hc3,ao (b:=cC.m) h0 ⟨0, ?_⟩⟩;have hl0:¬0<s.boxes.length:=by rw[hl];simp
   have hl1:s.boxes.length=0:=by omega
   simp only[ai,aS,boxes,ints] at h3 h4 ⊢;generalize s.boxes.length=nb at*;subst hl1;generalize s.boxes.map af=rb at*;generalize ax s.gone=rg at*;simp (maxSteps:=9^9) [a8,cC.m,cC.b,aa,setAt,h1,h2,h3,h4,c2,e7,e8,m1,m2]
  ·have hl0:0<s.boxes.length:=List.length_pos_iff.2 hl;obtain⟨b,i4,q4,⟨⟨hb1,_⟩,hb2,hb3,_,_⟩,hc4,h5⟩:=cp.EX ka hR i3 q3 hc3;refine⟨{s with boxes:=s.boxes.set 0 b},i4,q4, ?_,hc4,ao (b:=cC.m) h0 ⟨0, ?_⟩⟩
   ·refine tj ⟨by have:=hW.t.time;have:=G.time;simp only;omega,by have:=G.time;simp only;omega⟩ (by simpa using hW.b) hW.g fun y hy=> ?_
    rcases List.mem_or_eq_of_mem_set hy with z|z
    ·exact hW.box y z
    ·rw[z];exact⟨hb1,hb2,hb3⟩
   have e9:(s.boxes.set 0 b).map af=(s.boxes.map af).set 0 (af b):=by rw[fR]
   have a1:∀hh,(s.boxes.map af)[0]'hh=af s.boxes[0]:=by intro hh;simp
   have e10:((s.boxes.map af).set 0 (af b)).length=s.boxes.length:=by simp
   simp only[ai,aS,boxes,ints,e9] at h3 h4 ⊢;simp only[af,bM,ae,ints] at h5 a1 e10 ⊢;have e11:(b.ae.map ah).length=b.ae.length:=by simp
   have e12:=aI b.gone;generalize b.ae.map ah=rm at*;generalize ax b.gone=rbg at*;generalize s.boxes[0].ae.map ah=rm0 at*;generalize ax s.boxes[0].gone=rbg0 at*;generalize s.boxes.map af=rb at*;generalize ax s.gone=rg at*;simp (maxSteps:=9^9) [a8,cC.m,cC.b,aa,setAt,h1,h2,h3,h4,h5,c2,hl0,e7,e8,e10,m2,a1,ab]
 have d2:¬(x:Int)=2:=by omega
 by_cases c3:x=3
 ·have d3:(x:Int)=3:=by omega
  have hgl:=hW.g;have hgl2:=G.nL;refine⟨{s with gone:=s.gone++[(y:Int)]},i3,q3,tj ⟨by have:=G.time;simp only;omega,by have:=G.time;simp only;omega⟩ hW.b (by simp;omega) hW.box,hc3,ao (b:=cC.m) h0 ⟨0, ?_⟩⟩
  have e9:s.gone.length+1≤4294967296:=by omega
  simp only[ai,aS,boxes,ints,nK] at h3 h4 ⊢;generalize s.boxes.map af=rb at*;generalize ax s.gone=rg at*;simp (maxSteps:=9^9) [a8,cC.m,cC.b,aa,setAt,h1,h2,h3,h4,c3,e7,e8,e9,m1,m2,ab]
 have d3:¬(x:Int)=3:=by omega
 by_cases c4:x=4
 ·have d4:(x:Int)=4:=by omega
  by_cases hl:1<s.boxes.length
  ·have hl0:0<s.boxes.length:=by omega
   have hl2:(1:Int)<s.boxes.length:=by omega
   have hWb:=hW.box _ (ar hl);have hWa:=hW.box _ (ar hl0);refine⟨{s with boxes:=s.boxes.set 1 {s.boxes[1] with name:=s.boxes[0].name}},i3,q3, ?_,hc3,ao (b:=cC.m) h0 ⟨0, ?_⟩⟩
   ·refine tj ⟨by have:=G.time;simp only;omega,by have:=G.time;simp only;omega⟩ (by simpa using hW.b) hW.g fun y hy=> ?_
    rcases List.mem_or_eq_of_mem_set hy with z|z
    ·exact hW.box y z
    ·rw[z];exact⟨⟨hWb.kU.m,hWb.kU.g,hWa.kU.n,hWb.kU.f⟩,hWb.m,hWb.g⟩
   have e9:(s.boxes.set 1 {s.boxes[1] with name:=s.boxes[0].name}).map af=(s.boxes.map af).set 1 (af {s.boxes[1] with name:=s.boxes[0].name}):=by rw[fR]
   have a1:∀hh,(s.boxes.map af)[0]'hh=af s.boxes[0]:=by intro hh;simp
   have a2:∀hh,(s.boxes.map af)[1]'hh=af s.boxes[1]:=by intro hh;simp
   have e10:∀z,((s.boxes.map af).set 1 z).length=s.boxes.length:=by intro z;simp
   simp only[ai,aS,boxes,ints,e9] at h3 h4 ⊢;simp only[af,ae,ints] at a1 a2 ⊢;generalize s.boxes[1].ae.map ah=rm at*;generalize ax s.boxes[1].gone=rbg at*;generalize s.boxes[0].ae.map ah=rm0 at*;generalize ax s.boxes[0].gone=rbg0 at*;generalize s.boxes.map af=rb at*;generalize ax s.gone=rg at*;simp (maxSteps:=9^9) [a8,cC.m,cC.b,aa,setAt,h1,h2,h3,h4,c4,hl,hl0,hl2,e7,e8,e10,m2,a1,a2,ab]
  ·have hl2:¬(1:Int)<s.boxes.length:=by omega
   refine⟨s,i3,q3,hW,hc3,ao (b:=cC.m) h0 ⟨0, ?_⟩⟩;simp only[ai,aS,boxes,ints] at h3 h4 ⊢;generalize s.boxes.map af=rb at*;generalize ax s.gone=rg at*;simp (maxSteps:=9^9) [a8,cC.m,cC.b,aa,setAt,h1,h2,h3,h4,c4,hl2,e7,e8,m1,m2]
 have d4:¬(x:Int)=4:=by omega
 refine⟨s,i3,q3,hW,hc3,ao (b:=cC.m) h0 ⟨0, ?_⟩⟩;simp only[ai,aS,boxes,ints] at h3 h4 ⊢;generalize s.boxes.map af=rb at*;generalize ax s.gone=rg at*;simp (maxSteps:=9^9) [a8,cC.m,cC.b,aa,setAt,h1,h2,h3,h4,c0,d1,d2,d3,d4,e7,e8,m1,m2]
def nh(s:List bp×List Int)(m:bp):List bp×List Int:=if m.gid∈s.2 then s else(s.1++[m],s.2++[m.gid])
theorem sW(s0:List Int):∀(ms:List bp) (l:List bp) (s:List Int),(eI ms).Nodup→(∀m∈ms,m.gid∈s↔m.gid∈s0)→(∀g,g∈s0→g∈s)→
  (ms.foldl nh (l,s)).1=l++ms.filter (fun m=> !decide (m.gid∈s0))∧∀g,g∈(ms.foldl nh (l,s)).2↔g∈s∨g∈eI ms
 |[],l,s,_,_,_=>by simp[eI]
 |m::ms,l,s,hn,h1,h2=>by
  have hn':m.gid∉eI ms∧(eI ms).Nodup:=by
   have:=List.nodup_cons.1 (show (m.gid::eI ms).Nodup from hn);exact this
  rw[ff,iP];have hm:=h1 m (bh ..);by_cases c:m.gid∈s
  ·have c0:=hm.1 c;have e:nh (l,s) m=(l,s):=by unfold nh;rw[if_pos c]
   rw[e];obtain⟨q1,q2⟩:=sW s0 ms l s hn'.2 (fun x hx=>h1 x (bq _ hx)) h2;refine⟨by rw[q1];simp[c0],fun g=> ?_⟩;rw[q2];simp only[eI,bB,ug];constructor
   ·rintro (q|q)
    ·exact .inl q
    ·exact .inr (.inr q)
   ·rintro (q|q|q)
    ·exact .inl q
    ·rw[q];exact .inl c
    ·exact .inr q
  ·have c0:¬m.gid∈s0:=fun q=>c (hm.2 q)
   have e:nh (l,s) m=(l++[m],s++[m.gid]):=by unfold nh;rw[if_neg c]
   rw[e];obtain⟨q1,q2⟩:=sW s0 ms (l++[m]) (s++[m.gid]) hn'.2 (fun x hx=>by
    rw[iu,fy];have hne:x.gid≠m.gid:=fun e=>hn'.1 (by rw[←e];exact iH hx)
    have:=h1 x (bq _ hx);constructor
    ·rintro (q|q)
     ·exact this.1 q
     ·exact(hne q).elim
    ·exact fun q=> .inl (this.2 q)) (fun g hg=>List.mem_append_left _ (h2 g hg))
   refine⟨by rw[q1];simp[c0],fun g=> ?_⟩;rw[q2];simp only[eI,bB,ug,iu,List.not_mem_nil,or_false,or_assoc]
theorem yv(s:List bp×List Int)(m:bp):(nh s m).1.length≤s.1.length+1∧(nh s m).2.length≤s.2.length+1:=by
 unfold nh;split
 ·omega
 ·simp
def G5(c:xY):List T:=[I c.eD,I c.time,.row 13500 c.w 0 c.L.length,.row 11900 c.z 0 c.gone.length]
def DU(c:xY)(i:Nat)(j:Nat)(s:List bp×List Int)(y:Nat×Nat×Nat):St:={t:=[(4,.c (.ptr 4 c.u4 0 0)),(5,.c (.ptr 5 c.u6 0 0)),(6,.c (.row 37 y.1 0 s.2.length)),(7,.c (I i)),(8,.c (.row 45 y.2.1 0 s.1.length)),(9,.c (I j))],o:=[(4,⟨c.u4,4,true,true,[oz]⟩),(5,⟨c.u6,4,true,true,[G5 c]⟩),(37,⟨y.1,1,true,false,ax s.2⟩),(45,⟨y.2.1,4,true,false,s.1.map ah⟩),(11900,⟨c.z,1,false,false,ax c.gone⟩),(13500,⟨c.w,7,true,false,(jB c.L i).map af⟩)],n:=y.2.2}
def Hr(c:xY)(i:Nat)(x:bz)(s:List bp×List Int)(y:Nat×Nat×Nat):St:={t:=[(4,.c (.ptr 4 c.u4 0 0)),(5,.c (.ptr 5 c.u6 0 0)),(6,.c (.row 37 y.1 0 s.2.length)),(7,.c (I i)),(8,.c (.row 45 y.2.1 0 s.1.length)),(9,.c (I x.ae.length)),(54,.c (.bool false))],o:=[(4,⟨c.u4,4,true,true,[oz]⟩),(5,⟨c.u6,4,true,true,[G5 c]⟩),(37,⟨y.1,1,true,false,ax s.2⟩),(45,⟨y.2.1,4,true,false,s.1.map ah⟩),(11900,⟨c.z,1,false,false,ax c.gone⟩),(13500,⟨c.w,7,true,false,(jB c.L i).map af⟩)],n:=y.2.2}
theorem Fa(kc:bl.k M)(k:Nat)(c:xY)(i:Nat)(hi:i<c.L.length)(s0:List Int)(hs0:s0.length≤4194304)(hx:c.L[i].ae.length≤1048576)(hk:c.L[i].ae.length<k)(y:Nat×Nat×Nat):
  ∃z,fi (cy (run M) k bN.l1) k (DU c i 0 ([],s0) y)=some (.exit 2,Hr c i c.L[i] (c.L[i].ae.foldl nh ([],s0)) z):=by
 have el:((jB c.L i).map af).length=c.L.length:=by simp[sm]
 have a0:∀hh,((jB c.L i).map af)[i]'hh=af c.L[i]:=by
  intro hh;simp only[fb,xD c.L i hi]
 obtain⟨x,hxx⟩:∃x,x=c.L[i]:=⟨_,rfl⟩
 rw[←hxx] at a0 hx hk ⊢;have er:(x.ae.map ah).length=x.ae.length:=by simp
 obtain⟨g,hr⟩:=jz (f:=cy (run M) k bN.l1) x.ae nh (fun i s=>s.1.length≤i∧s.2.length≤4194304+i) (DU c i) 2 (Hr c i x)
  (fun i h s hs=>by have:=yv s x.ae[i];omega)
  (fun j hj s y hs=>by
   obtain⟨v,v4,n⟩:=y;obtain⟨l,sn⟩:=s;simp only at hs;have e5:=cz (i:=j) (by omega);have e6:l.length+1≤4294967296:=by omega
   have e7:sn.length+1≤4294967296:=by omega
   have e9:(l.map ah).length=l.length:=by simp
   have e10:=aI sn;have h1:=bl.al kc sn x.ae[j].gid (by omega);have a1:∀hh,(x.ae.map ah)[j]'hh=ah x.ae[j]:=by intro hh;simp
   simp only[aH];unfold nh;by_cases q:x.ae[j].gid∈sn
   ·rw[decide_eq_true q] at h1;simp only[q,if_true,DU,G5];simp only[af,ae,ints,ah,jE] at a0 a1 h1 ⊢;generalize x.ae.map ah=rx at*;generalize ax x.gone=rxg at*;generalize ax sn=rs at*;generalize (jB c.L i).map af=rd at*;generalize l.map ah=rl at*;generalize x.ae[j].flags.map aF=rf at*;simp (maxSteps:=9^9) [bN.l1,setAt,hi,hj,h1,e5,e10,er,el,a0,a1,ab]
   ·rw[decide_eq_false q] at h1;simp only[q,if_false,DU,G5,nK,cU,bB,bJ,aC,bU];simp only[af,ae,ints,ah,jE] at a0 a1 h1 ⊢;generalize x.ae.map ah=rx at*;generalize ax x.gone=rxg at*;generalize ax sn=rs at*;generalize (jB c.L i).map af=rd at*;generalize l.map ah=rl at*;generalize x.ae[j].flags.map aF=rf at*;simp (maxSteps:=9^9) [bN.l1,setAt,hi,hj,h1,e5,e6,e7,e9,e10,er,el,a0,a1,ab])
  (fun s y hs=>by
   obtain⟨v,v4,n⟩:=y;obtain⟨l,sn⟩:=s;simp only[aH,DU,Hr,G5];simp only[af,ae,ints] at a0 ⊢;generalize x.ae.map ah=rx at*;generalize ax x.gone=rxg at*;generalize ax sn=rs at*;generalize (jB c.L i).map af=rd at*;generalize l.map ah=rl at*;simp (maxSteps:=9^9) [bN.l1,hi,er,el,a0]) ([],s0) ⟨by simp,by simp only;omega⟩
 exact⟨_,gP (hr y) (by omega)⟩
structure Mf where
 i:Nat
 seen:List Int
 v:Nat
 n:Nat
def x5(c:xY)(s:Mf):St:={t:=[(4,.c (.ptr 4 c.u4 0 0)),(5,.c (.ptr 5 c.u6 0 0)),(6,.c (.row 37 s.v 0 s.seen.length)),(7,.c (I s.i))],o:=[(4,⟨c.u4,4,true,true,[oz]⟩),(5,⟨c.u6,4,true,true,[G5 c]⟩),(37,⟨s.v,1,true,false,ax s.seen⟩),(11900,⟨c.z,1,false,false,ax c.gone⟩),(13500,⟨c.w,7,true,false,(jB c.L s.i).map af⟩)],n:=s.n}
def Fc(c:xY)(s:Mf):St:={t:=[(4,.c (.ptr 4 c.u4 0 0)),(5,.c (.ptr 5 c.u6 0 0)),(6,.c (.row 37 s.v 0 s.seen.length)),(7,.c (I s.i)),(42,.c (.bool false))],o:=[(4,⟨c.u4,4,true,true,[oz]⟩),(5,⟨c.u6,4,true,true,[G5 c]⟩),(37,⟨s.v,1,true,false,ax s.seen⟩),(11900,⟨c.z,1,false,false,ax c.gone⟩),(13500,⟨c.w,7,true,false,(jB c.L s.i).map af⟩)],n:=s.n}
structure NG (c:xY) (s:Mf):Prop where
 i:s.i≤c.L.length
 mem:∀g,g∈s.seen↔g∈j7 c.L s.i
 len:s.seen.length≤100*s.i
theorem Fb(kc:bl.k M)(k:Nat)(hk:200≤k)(c:xY)(hL:c.L.length≤1000)(hb:∀b∈c.L,b.ae.length≤100∧(eI b.ae).Nodup)(s:Mf)(hI:NG c s)(hs:s.i<c.L.length):
  ∃s',cy (run M) k bN.l0 (x5 c s)=some (.normal,x5 c s')∧NG c s'∧s'.i=s.i+1:=by
 obtain⟨i,sn,v,n⟩:=s;obtain⟨_,hm,hl⟩:=hI;simp only at hs hm hl;obtain⟨hx,hnd⟩:=hb _ (ar hs);obtain⟨⟨v5,v4,n4⟩,r1⟩:=Fa kc k c i hs sn (by omega) (by omega) (by omega) (v,n+80,n+128);obtain⟨f1,f2⟩:=sW sn c.L[i].ae [] sn hnd (fun _ _=>Iff.rfl) (fun _ h=>h);rw[List.nil_append] at f1;have f3:(c.L[i].ae.foldl nh ([],sn)).1.length≤c.L[i].ae.length∧(c.L[i].ae.foldl nh ([],sn)).2.length≤sn.length+c.L[i].ae.length:=by
  have key:∀ms:List bp,(ms.foldl nh ([],sn)).1.length≤ms.length∧(ms.foldl nh ([],sn)).2.length≤sn.length+ms.length:=fun ms=>
   uE ms nh (fun j s=>s.1.length≤j∧s.2.length≤sn.length+j) (fun j h s hs=>by have:=yv s ms[j];omega) ([],sn) ⟨by simp,by simp⟩
  exact key _
 have hded:nW c.L i c.L[i]={c.L[i] with ae:=(c.L[i].ae.foldl nh ([],sn)).1}:=by
  unfold nW;rw[f1];congr 1;apply List.filter_congr;intro m _;congr 1;exact decide_eq_decide.2 (hm m.gid).symm
 have t3:(jB c.L (i+1)).map af=((jB c.L i).map af).set i (af (nW c.L i c.L[i])):=by rw[xC c.L i hs,fR]
 rw[hded] at t3;have e5:=cz (i:=i) (by omega);have ez:((0:Nat):Int)=0:=rfl;have el:((jB c.L i).map af).length=c.L.length:=by simp[sm]
 have a1:∀hh,((jB c.L i).map af)[i]'hh=af c.L[i]:=by
  intro hh;simp only[fb,xD c.L i hs]
 have hh:∃n',cy (run M) k bN.l0 (x5 c ⟨i,sn,v,n⟩)=some (.normal,x5 c ⟨i+1,(c.L[i].ae.foldl nh ([],sn)).2,v5,n'⟩):=by
  simp only[DU,Hr,ez,bJ,eJ] at r1;simp only[x5,t3];clear t3 hded f1 f2 hm;have efl:((c.L[i].ae.foldl nh ([],sn)).1.map ah).length=(c.L[i].ae.foldl nh ([],sn)).1.length:=by simp
  generalize c.L[i].ae.foldl nh ([],sn)=F at*;obtain⟨fl,fs⟩:=F;simp only[af,ae,ints,G5] at r1 a1 efl ⊢;generalize fl.map ah=rl at*;generalize ax fs=rfs at*;generalize ax sn=rs at*;generalize (jB c.L i).map af=rd at*;generalize c.L[i]=x at*;generalize c.L.length=N at*;generalize x.ae.map ah=rx at*;generalize ax x.gone=rg at*;generalize ax c.gone=rcg at*;simp (maxSteps:=9^9) [bN.l0,setAt,hs,r1,e5,el,a1,efl,ab]
 obtain⟨n',hh⟩:=hh;refine⟨_,hh,⟨hs,fun g=> ?_, ?_⟩,rfl⟩
 ·simp only;rw[f2,sY c.L i hs,iu,hm]
 ·simp only;omega
theorem Hs(k:Nat)(c:xY)(s:Mf)(hs:¬s.i<c.L.length):
  ∃n',cy (run M) k bN.l0 (x5 c s)=some (.exit 0,Fc c {s with n:=n'}):=by
 obtain⟨i,sn,v,n⟩:=s;simp only at hs;simp only[x5,Fc,G5];generalize (jB c.L i).map af=rd at*;simp (maxSteps:=9^9) [bN.l0,hs]
theorem s9{l:List bz}{g:Int}:kV l g=none↔∀m∈l,m.gid≠g:=by
 unfold kV;rw[List.find?_eq_none];simp
theorem yY{l:List bz}(h:(l.map (·.gid)).Nodup){m:bz}(hm:m∈l):kV l m.gid=some m:=by
 induction l with
 |nil=>simp at hm
 |cons x l ih=>
  rw[bB,List.nodup_cons] at h;unfold kV at ih ⊢;rw[List.find?_cons];rcases List.mem_cons.1 hm with rfl|hm
  ·simp
  ·have:x.gid≠m.gid:=fun e=>h.1 (by rw[e];exact iH hm)
   simp only[this,decide_false];exact ih h.2 hm
theorem uB{a b:List bz}{g:Int}(h:g∈fP a∨g∈fP b):(my a b g).gid=g:=by
 unfold my;cases h1:kV a g with
 |some x=>
  cases h2:kV b g with
  |some y=>simp only[oC];exact(ln h1).2
  |none=>exact(ln h1).2
 |none=>
  cases h2:kV b g with
  |some y=>exact(ln h2).2
  |none=>
   exfalso;rw[s9] at h1 h2;rcases h with h|h
   ·obtain⟨m,hm,e⟩:=List.mem_map.1 h;exact h1 m hm e
   ·obtain⟨m,hm,e⟩:=List.mem_map.1 h;exact h2 m hm e
theorem Gx{a b:List bz}(ha:(fP a).Nodup)(hb:(fP b).Nodup){m:bz}:m∈oE a b↔(m.gid∈fP a∨m.gid∈fP b)∧m=my a b m.gid:=by
 simp only[oE,kS,iu,ov,fJ];constructor
 ·rintro (⟨x,hx,rfl⟩|⟨hm,hn⟩)
  ·have h1:=yY ha hx;have hg:x.gid∈fP a:=iH hx;cases h2:kV b x.gid with
   |some y=>
    simp only[oC];refine⟨.inl hg, ?_⟩;simp only[my,h1,h2]
   |none=>
    simp only;refine⟨.inl hg, ?_⟩;simp only[my,h1,h2]
  ·have h1:=yY hb hm;simp only[b9] at hn;refine⟨.inr (iH hm), ?_⟩;simp only[my,h1,hn]
 ·rintro ⟨h,e⟩;cases h1:kV a m.gid with
  |some x=>
   left;obtain⟨k1,k2⟩:=ln h1;refine⟨x,k1, ?_⟩;rw[e,k2];simp only[my,h1];cases h2:kV b m.gid<;>rfl
  |none=>
   right;cases h2:kV b m.gid with
   |none=>
    exfalso;rw[s9] at h1 h2;rcases h with h|h
    ·obtain⟨m',hm,e⟩:=List.mem_map.1 h;exact h1 m' hm e
    ·obtain⟨m',hm,e⟩:=List.mem_map.1 h;exact h2 m' hm e
   |some y=>
    refine⟨?_,by simp⟩;have:m=y:=by rw[e];simp only[my,h1,h2]
    rw[this];exact(ln h2).1
theorem CM{a b:List bz}(ha:(fP a).Nodup)(hb:(fP b).Nodup):(fP (oE a b)).Nodup:=by
 have e1:fP (kS a b)=fP a:=by
  unfold fP kS;rw[List.map_map];apply List.map_congr_left;intro m _;simp only[Function.comp];split
  ·exact oC _ _
  ·rfl
 unfold oE;rw[fP,cU];change (fP _++fP _).Nodup;rw[e1,List.nodup_append];refine⟨ha, ?_, ?_⟩
 ·exact hb.sublist (List.Sublist.map _ List.filter_sublist)
 ·intro x hx y hy e;subst e;obtain⟨m,hm,rfl⟩:=List.mem_map.1 hy;rw[fJ] at hm;simp only[b9,s9] at hm;obtain⟨m',hm',e⟩:=List.mem_map.1 hx;exact hm.2 m' hm' e
theorem HB{a b:List bz}(G:List Int)(ha:(fP a).Nodup)(hb:(fP b).Nodup):
  fv (·.gid) ((oE a b).filter fun m=> !decide (m.gid∈G))=((aV (fP a) (fP b)).filter fun g=> !decide (g∈G)).map (my a b):=by
 refine uP (k:=fun m:bz=>m.gid) ?_ ?_ fun m=> ?_
 ·refine pJ (ow _) ?_;have hp:=(oA (k:=fun m:bz=>m.gid) ((oE a b).filter fun m=> !decide (m.gid∈G))).map (fun m:bz=>m.gid);rw[hp.nodup_iff];exact(CM ha hb).sublist (List.Sublist.map _ List.filter_sublist)
 ·rw[Bq,List.pairwise_map];have h:=(nS (fP a) (fP b)).filter (fun g=> !decide (g∈G));refine List.Pairwise.imp_of_mem ?_ h;intro x y hx hy hxy;rw[fJ,iU] at hx hy;rw[uB hx.1,uB hy.1];exact hxy
 ·rw[qn,fJ,Gx ha hb,ov];constructor
  ·rintro ⟨⟨h1,h2⟩,h3⟩;exact⟨m.gid,List.mem_filter.2 ⟨(iU _ _ _).2 h1,h3⟩,h2.symm⟩
  ·rintro ⟨g,hg,rfl⟩;rw[fJ,iU] at hg;have:=uB hg.1;rw[this];exact⟨⟨hg.1,rfl⟩,hg.2⟩
theorem zJ{a b:aW}(ha:mH a)(hb:mH b)(G:List Int):lf a.boxes b.boxes G=lJ a.boxes b.boxes G:=by
 have nd:∀{s:aW},mH s→(fP s.boxes).Nodup:=fun {s} h=>List.pairwise_map.2 (h.JE.imp fun q=>by omega)
 unfold lf lJ;rw[HB G (nd ha) (nd hb)]
theorem Af(kc:bl.k M)(k:Nat)(hk:1200≤k)(c:xY)(hL:c.L.length≤1000)(hb:∀b∈c.L,b.ae.length≤100∧(eI b.ae).Nodup)(v n:Nat):
  ∃s',fi (cy (run M) k bN.l0) k (x5 c ⟨0,[],v,n⟩)=some (.exit 0,Fc c s')∧s'.i=c.L.length:=by
 obtain⟨r,hr,s',rfl,hi⟩:=kC (f:=cy (run M) k bN.l0) (x5 c) (NG c) (fun s=>c.L.length-s.i) (fun r=>∃s',r=(.exit 0,Fc c s')∧s'.i=c.L.length)
  (fun s hs=>by
   by_cases q:s.i<c.L.length
   ·left;obtain⟨s',hh,hI,hi⟩:=Fb kc k (by omega) c hL hb s hs q;exact⟨_,hh,hI,by omega⟩
   ·right;obtain⟨n',hh⟩:=Hs (M:=M) k c s q;have:=hs.i;exact⟨_,hh,by simp,_,rfl,by simp only;omega⟩) k ⟨0,[],v,n⟩ ⟨by simp,fun g=>by simp[j7],by simp⟩ (by simp only;omega)
 exact⟨s',hr,hi⟩
theorem bN.al(h:bN.k M)(a b:aW)(ha:mH a)(hb:mH b):
  run M 446 [.a (ai a),.a (ai b)] []=some (.a [I a.eD,I (Max.max a.time b.time),.sl true 7 ((dB a b).boxes.map af),.sl false 1 (ax (dB a b).gone)],[]):=by
 obtain⟨h0,kg,kin,kb⟩:=h;have hga:=ha.gone;have hgb:=hb.gone;have hgj:=ke a.gone b.gone;have h1:=aY.al kg a.gone b.gone (by omega) (by omega);have h2:=a7.al kb a.boxes b.boxes (aV a.gone b.gone) ha.boxes hb.boxes (by omega);rw[←zJ ha hb] at h2;have hLl:=pe ha.boxes hb.boxes (aV a.gone b.gone);have hLs:=lZ ha.boxes hb.boxes (aV a.gone b.gone);simp only[dB];have eg:=aI (aV a.gone b.gone);generalize aV a.gone b.gone=G at*;generalize lf a.boxes b.boxes G=L at*;have hLb:∀x∈L,x.ae.length≤100∧(eI x.ae).Nodup:=fun x hx=>⟨by have:=(hLs x hx).m;omega,(hLs x hx).d⟩
 obtain⟨⟨i1,sn1,v1,n1⟩,r1,hi1⟩:=Af kin 1200 (by omega) ⟨2000032,2000208,2000480,2000176,a.eD,b.time,G,L⟩ (by simp only;omega) hLb 2000528 2000576;obtain⟨⟨i2,sn2,v2,n2⟩,r2,hi2⟩:=Af kin 1200 (by omega) ⟨2000032,2000208,2000416,2000176,a.eD,a.time,G,L⟩ (by simp only;omega) hLb 2000464 2000512;simp only at hi1 hi2;subst hi1;subst hi2;refine ao (b:=bN.m) h0 ⟨1200, ?_⟩;have el:(L.map af).length=L.length:=by simp
 have el2:((vR L).map af).length=L.length:=by simp[vR]
 have ez:((0:Nat):Int)=0:=rfl;have em:=zC a.time b.time;simp only[x5,Fc,G5,xB,yU,ez,mU,eJ] at r1 r2;generalize hmx:Max.max a.time b.time=mx at*;clear hmx hLs hLb;generalize (vR L).map af=RD at*;generalize L.map af=RL at*;generalize L.length=N at*;simp only[ai,boxes,ints] at*;generalize ax G=rg at*;generalize G.length=ng at*;generalize a.boxes.map af=ra at*;generalize b.boxes.map af=rb at*;generalize ax a.gone=ga at*;generalize ax b.gone=gb at*;by_cases c:a.time<b.time
 ·rw[if_pos c] at em;subst em;simp (maxSteps:=9^9) [a8,bN.m,bN.b,aa,setAt,h1,h2,r1,c,el,el2,eg,ab]
 ·rw[if_neg c] at em;subst em;simp (maxSteps:=9^9) [a8,bN.m,bN.b,aa,setAt,h1,h2,r2,c,el,el2,eg,ab]
def lx(a b:aW):Bool:=bu a&&bu b&&bu (dB a b)
theorem sL{a b:aW}(ha:mH a)(hb:mH b):iI (dB a b):=by
 have h1:=ke a.gone b.gone;have h2:=ha.gone;have h3:=hb.gone;have h4:=pe ha.boxes hb.boxes (aV a.gone b.gone);refine⟨by simp only[dB,vR,List.length_mapIdx];omega,by simp only[dB];omega,Gk _ (lZ ha.boxes hb.boxes (aV a.gone b.gone)), ?_⟩;have hs:=Gk (lf a.boxes b.boxes (aV a.gone b.gone)) (lZ ha.boxes hb.boxes (aV a.gone b.gone));have key:∀l:List bz,(∀x∈l,x.ae.length≤20)→(l.flatMap b_).length≤20*l.length:=by
  intro l
  induction l with
  |nil=>intro _;simp
  |cons x l ih=>
   intro h;have h1:=ih fun y hy=>h y (bq _ hy)
   have h2:=h x (bh ..);simp only[cH,aC,b_,gD,bT] at h1 ⊢;omega
 have hk:=key (dB a b).boxes fun x hx=>by
  obtain⟨i,hi,rfl⟩:=bF hx;simp only[dB,vR,List.length_mapIdx] at hi;simp only[dB,vR,List.getElem_mapIdx,nW];have S:=lZ ha.boxes hb.boxes (aV a.gone b.gone) _ (ar hi);exact Nat.le_trans (bV _ _) S.m
 have hl:(dB a b).boxes.length≤10:=by simp only[dB,vR,List.length_mapIdx];exact h4
 omega
theorem fw.al(h:fw.k M)(a b:aW)(ha:iI a)(hb:iI b):run M 433 [.a (ai a),.a (ai b)] []=some (.c (.bool (lx a b)),[]):=by
 obtain⟨h0,ks,kj⟩:=h;have h1:=aQ.al ks a ha;have h2:=aQ.al ks b hb;refine ao (b:=fw.m) h0 ⟨0, ?_⟩;unfold lx;cases c1:bu a with
 |false=>
  rw[c1] at h1;simp only[ai,boxes,ints] at*;generalize a.boxes.map af=ra at*;generalize b.boxes.map af=rb at*;generalize ax a.gone=ga at*;generalize ax b.gone=gb at*;simp (maxSteps:=9^9) [a8,fw.m,fw.b,aa,h1,ab]
 |true=>
  rw[c1] at h1;cases c2:bu b with
  |false=>
   rw[c2] at h2;simp only[ai,boxes,ints] at*;generalize a.boxes.map af=ra at*;generalize b.boxes.map af=rb at*;generalize ax a.gone=ga at*;generalize ax b.gone=gb at*;simp (maxSteps:=9^9) [a8,fw.m,fw.b,aa,h1,h2,ab]
  |true=>
   rw[c2] at h2;have h3:=bE.al kj a b (eT c1) (eT c2);have h4:=aQ.al ks _ (sL (eT c1) (eT c2));have e1:(dB a b).eD=a.eD:=rfl;have e2:(dB a b).time=Max.max a.time b.time:=rfl;simp only[ai,boxes,ints,e1,e2] at*;generalize Max.max a.time b.time=mx at*;generalize bu (dB a b)=w at*;generalize (dB a b).boxes.map af=rj at*;generalize ax (dB a b).gone=gj at*;generalize a.boxes.map af=ra at*;generalize b.boxes.map af=rb at*;generalize ax a.gone=ga at*;generalize ax b.gone=gb at*;simp (maxSteps:=9^9) [a8,fw.m,fw.b,aa,h1,h2,h3,h4,ab]
theorem fu.al(h:fu.k M)(a b:aW)(ha:iI a)(hb:iI b):run M 432 [.a (ai a),.a (ai b)] []=some (.c (.bool (lx a b)),[]):=by
 obtain⟨h0,ks,kj⟩:=h;have h1:=aN.al ks a ha;have h2:=aN.al ks b hb;refine ao (b:=fu.m) h0 ⟨0, ?_⟩;unfold lx;cases c1:bu a with
 |false=>
  rw[c1] at h1;simp only[ai,boxes,ints] at*;generalize a.boxes.map af=ra at*;generalize b.boxes.map af=rb at*;generalize ax a.gone=ga at*;generalize ax b.gone=gb at*;simp (maxSteps:=9^9) [a8,fu.m,fu.b,aa,h1,ab]
 |true=>
  rw[c1] at h1;cases c2:bu b with
  |false=>
   rw[c2] at h2;simp only[ai,boxes,ints] at*;generalize a.boxes.map af=ra at*;generalize b.boxes.map af=rb at*;generalize ax a.gone=ga at*;generalize ax b.gone=gb at*;simp (maxSteps:=9^9) [a8,fu.m,fu.b,aa,h1,h2,ab]
  |true=>
   rw[c2] at h2;have h3:=bN.al kj a b (eT c1) (eT c2);have h4:=aN.al ks _ (sL (eT c1) (eT c2));have e1:(dB a b).eD=a.eD:=rfl;have e2:(dB a b).time=Max.max a.time b.time:=rfl;simp only[ai,boxes,ints,e1,e2] at*;generalize Max.max a.time b.time=mx at*;generalize bu (dB a b)=w at*;generalize (dB a b).boxes.map af=rj at*;generalize ax (dB a b).gone=gj at*;generalize a.boxes.map af=ra at*;generalize b.boxes.map af=rb at*;generalize ax a.gone=ga at*;generalize ax b.gone=gb at*;simp (maxSteps:=9^9) [a8,fu.m,fu.b,aa,h1,h2,h3,h4,ab]
end Mx
namespace Mx
open Go
def mb(l:List bz)(g:Int):List Int:=match kV l g with|some x=>eI x.ae|none=>[]
def gb(l:List bz)(g:Int):List Int:=match kV l g with|some x=>x.gone|none=>[]
def raw(a b:List bz)(G:List Int):List bz:=((aV (fP a) (fP b)).filter fun g=> !decide (g∈G)).map (my a b)
theorem u7:∀(l acc:List bz) (i:Nat) (h:i<l.length),∃nm,(l.foldl oO acc)[acc.length+i]? =some {l[i] with name:=nm}
 |x::l,acc,i,h=>by
  rw[ff];have hs:oO acc x=acc++[pF acc x]:=rfl;cases i with
  |zero=>
   have hp:∀(l acc:List bz) (k:Nat),k<acc.length→(l.foldl oO acc)[k]? =acc[k]? :=by
    intro l
    induction l with
    |nil=>intro acc k _;rfl
    |cons y l ih=>
     intro acc k hk;rw[ff,ih (oO acc y) k (by rw[qt];simp;omega),qt,List.getElem?_append_left hk]
   rw[hp l _ _ (by rw[hs];simp),hs];refine⟨(pF acc x).name, ?_⟩;simp only[Nat.add_zero,List.getElem?_append_right (Nat.le_refl _),Nat.sub_self,List.getElem?_cons_zero,List.getElem_cons_zero];unfold pF;split<;>rfl
  |succ i=>
   have:=u7 l (oO acc x) i (by simpa using h);rw[hs] at this;simpa [hs,Nat.add_assoc,Nat.add_comm 1] using this
theorem J6(l:List bz)(i:Nat)(h:i<l.length):∃nm,(qf l)[i]'(by rw[lz];exact h)={l[i] with name:=nm}:=by
 obtain⟨nm,e⟩:=u7 l [] i h;refine⟨nm, ?_⟩;simp only[eJ,Nat.zero_add] at e;have e2:(qf l)[i]? =some {l[i] with name:=nm}:=e
 rw[bW (by rw[lz];exact h)] at e2;exact Option.some.inj e2
theorem yA{L:List bz}{i:Nat}{m:Int}:m∈j7 L i↔∃k,∃h:k<L.length,k<i∧m∈eI L[k].ae:=by
 unfold j7;rw[jm];constructor
 ·rintro ⟨b,hb,hm⟩;obtain⟨k,hk,rfl⟩:=bF hb;simp only[jn] at hk;rw[List.getElem_take] at hm;exact⟨k,by omega,by omega,hm⟩
 ·rintro ⟨k,hk,hki,hm⟩;refine⟨L[k], ?_,hm⟩;have:k<(L.take i).length:=by simp;omega
  have e:(L.take i)[k]=L[k]:=by rw[List.getElem_take]
  rw[←e];exact ar this
theorem Gl{L:List bz}{i:Nat}(h:i<L.length){m:Int}:m∈eI ((vR L)[i]'(by simpa [vR] using h)).ae↔m∈eI L[i].ae∧¬m∈j7 L i:=by
 simp only[vR,List.getElem_mapIdx,nW,eI,ov,fJ,Bool.not_eq_true',decide_eq_false_iff_not];constructor
 ·rintro ⟨y,⟨h1,h2⟩,rfl⟩;exact⟨⟨y,h1,rfl⟩,h2⟩
 ·rintro ⟨⟨y,h1,rfl⟩,h2⟩;exact⟨y,⟨h1,h2⟩,rfl⟩
structure NK (a b:List bz) (G:List Int) (L:List bz):Prop where
 len:L.length=(raw a b G).length
 at_:∀i (h:i<L.length),∃hr:i<(raw a b G).length,L[i].gid=(raw a b G)[i].gid∧L[i].gone=(raw a b G)[i].gone∧
  ∀m,m∈eI L[i].ae↔m∈eI (raw a b G)[i].ae∧¬m∈j7 (raw a b G) i
 nd:(∀x∈raw a b G,(eI x.ae).Nodup)→∀i (h:i<L.length),(eI L[i].ae).Nodup
theorem NQ(a b:List bz)(G:List Int):NK a b G (vR (lJ a b G)):=by
 have hl:(vR (lJ a b G)).length=(raw a b G).length:=by simp only[vR,List.length_mapIdx];exact lz _
 have hS:∀i (h:i<(raw a b G).length),∃nm,(lJ a b G)[i]'(by rw[show (lJ a b G).length=_ from lz _];exact h)={(raw a b G)[i] with name:=nm}:=fun i h=>J6 (raw a b G) i h
 have hlS:(lJ a b G).length=(raw a b G).length:=lz _;have hseen:∀i m,m∈j7 (lJ a b G) i↔m∈j7 (raw a b G) i:=by
  intro i m;rw[yA,yA];constructor
  ·rintro ⟨k,h1,h2,h3⟩;obtain⟨nm,e⟩:=hS k (by omega);rw[e] at h3;exact⟨k,by omega,h2,h3⟩
  ·rintro ⟨k,h1,h2,h3⟩;obtain⟨nm,e⟩:=hS k h1;exact⟨k,by omega,h2,by rw[e];exact h3⟩
 refine⟨hl,fun i h=> ?_,fun hn i h=> ?_⟩
 ·have hr:i<(raw a b G).length:=by omega
  obtain⟨nm,e⟩:=hS i hr;refine⟨hr, ?_, ?_,fun m=> ?_⟩
  ·simp only[vR,List.getElem_mapIdx,nW,e]
  ·simp only[vR,List.getElem_mapIdx,nW,e]
  ·rw[Gl (by omega),hseen,e]
 ·have hr:i<(raw a b G).length:=by omega
  obtain⟨nm,e⟩:=hS i hr;have:=hn _ (ar hr);simp only[vR,List.getElem_mapIdx,nW,e,eI] at this ⊢;exact this.sublist (List.Sublist.map _ List.filter_sublist)
end Mx
namespace Mx
open Go
variable {M:Nat→Option Body}
structure JH (b:bz):Prop where
 m:b.ae.length≤1048576
 g:b.gone.length≤1048576
 f:∀m∈b.ae,m.flags.length≤1048576
structure mo (s:aW):Prop where
 b:s.boxes.length≤1048576
 g:s.gone.length≤1048576
 box:∀b∈s.boxes,JH b
def J1(a b:bz)(i:Nat)(x:Nat×Nat×Nat):St:={t:=[(2,.c (.ptr 2 x.1 0 0)),(3,.c (.ptr 3 x.2.1 0 0)),(5,.c (I i))],o:=[(2,⟨x.1,7,true,true,[af a]⟩),(3,⟨x.2.1,7,true,true,[af b]⟩)],n:=x.2.2}
def Mt(a b:bz)(x:Nat×Nat×Nat):St:={t:=[(2,.c (.ptr 2 x.1 0 0)),(3,.c (.ptr 3 x.2.1 0 0)),(5,.c (I a.ae.length)),(55,.c (.bool false))],o:=[(2,⟨x.1,7,true,true,[af a]⟩),(3,⟨x.2.1,7,true,true,[af b]⟩)],n:=x.2.2}
def DZ(a b:bz)(i:Nat)(x:Nat×Nat×Nat):St:={t:=[(2,.c (.ptr 2 x.1 0 0)),(3,.c (.ptr 3 x.2.1 0 0)),(6,.c (I i))],o:=[(2,⟨x.1,7,true,true,[af a]⟩),(3,⟨x.2.1,7,true,true,[af b]⟩)],n:=x.2.2}
def J2(a b:bz)(x:Nat×Nat×Nat):St:={t:=[(2,.c (.ptr 2 x.1 0 0)),(3,.c (.ptr 3 x.2.1 0 0)),(6,.c (I a.gone.length)),(74,.c (.bool false))],o:=[(2,⟨x.1,7,true,true,[af a]⟩),(3,⟨x.2.1,7,true,true,[af b]⟩)],n:=x.2.2}
theorem pc{f:St→Option (Out×St)}:∀{n m:Nat} {s:St} {r:Out×St},fi f n s=some r→n≤m→fi f m s=some r
 |0,m,s,r,h,_=>by simp[fi] at h
 |n+1,0,s,r,h,hm=>by omega
 |n+1,m+1,s,r,h,hm=>by
  simp only[fi] at h ⊢;split at h
  ·exact pc h (by omega)
  ·exact h
theorem bO.al(h:bO.k M)(a b:bz)(ha:JH a):run M 116 [.a (af a),.a (af b)] []=some (.c (.bool (decide (a=b))),[]):=by
 obtain⟨h0,k1⟩:=h;refine ao (b:=bO.m) h0 ⟨a.ae.length+a.gone.length+1, ?_⟩;by_cases c1:a.gid=b.gid;rotate_left
 ·have hne:¬a=b:=fun q=>c1 (by rw[q])
  simp[a8,bO.m,bO.b,aa,c1,hne]
 by_cases c2:a.name=b.name;rotate_left
 ·have hne:¬a=b:=fun q=>c2 (by rw[q])
  simp[a8,bO.m,bO.b,aa,c1,c2,hne]
 by_cases c3:a.time=b.time;rotate_left
 ·have hne:¬a=b:=fun q=>c3 (by rw[q])
  simp[a8,bO.m,bO.b,aa,c1,c2,c3,hne,ti,Bu]
 by_cases c4:a.eD=b.eD;rotate_left
 ·have hne:¬a=b:=fun q=>c4 (by rw[q])
  simp[a8,bO.m,bO.b,aa,c1,c2,c3,c4,hne,ti,Bu]
 by_cases c5:a.next=b.next;rotate_left
 ·have hne:¬a=b:=fun q=>c5 (by rw[q])
  simp[a8,bO.m,bO.b,aa,c1,c2,c3,c4,c5,hne,ti,Bu]
 by_cases c6:a.ae.length=b.ae.length;rotate_left
 ·have hne:¬a=b:=fun q=>c6 (by rw[q])
  have c6':¬(a.ae.length:Int)=b.ae.length:=by omega
  simp[a8,bO.m,bO.b,aa,c1,c2,c3,c4,c5,c6',hne,ti,Bu]
 by_cases c7:a.gone.length=b.gone.length;rotate_left
 ·have hne:¬a=b:=fun q=>c7 (by rw[q])
  have c7':¬(a.gone.length:Int)=b.gone.length:=by omega
  simp[a8,bO.m,bO.b,aa,c1,c2,c3,c4,c5,c6,c7',hne,ti,Bu]
 obtain⟨K,hK⟩:∃K,K=a.ae.length+a.gone.length+1:=⟨_,rfl⟩
 rw[←hK];have hml:=ha.m;have hgl:=ha.g;have hfl:=ha.f;obtain⟨g,hr⟩:=tV a.ae b.ae c6 (f:=cy (run M) K bO.l0) (J1 a b) 4 0 (Mt a b)
  (fun i hi hi' x c=>by
   obtain⟨v,w,x⟩:=x;have e5:=cz (i:=i) (by omega);have hm:=cn.al k1 a.ae[i] b.ae[i] (hfl _ (ar hi));rw[decide_eq_true c] at hm;simp only[ah] at hm;simp only[aH];simp[J1,bO.l0,hi,hi',e5,ah,hm])
  (fun i hi hi' x c=>by
   obtain⟨v,w,x⟩:=x;have hm:=cn.al k1 a.ae[i] b.ae[i] (hfl _ (ar hi));rw[decide_eq_false c] at hm;simp only[ah] at hm;simp[J1,bO.l0,hi,hi',ah,hm])
  (fun x=>by
   obtain⟨v,w,x⟩:=x;simp only[aH];simp[J1,Mt,bO.l0])
 have hr':=fun x=>pc (hr x) (show a.ae.length+1≤K by omega)
 by_cases c8:a.ae=b.ae;rotate_left
 ·have hne:¬a=b:=fun q=>c8 (by rw[q])
  simp only[c8,if_false] at hr';simp[J1,af,c1,c2,c3,c4,c5] at hr';simp[a8,bO.m,bO.b,aa,af,c1,c2,c3,c4,c5,c6,c7,hne,ti,Bu,hr']
 obtain⟨g2,hr2⟩:=tV a.gone b.gone c7 (f:=cy (run M) K bO.l1) (DZ a b) 4 2 (J2 a b)
  (fun i hi hi' x c=>by
   obtain⟨v,w,x⟩:=x;have e5:=cz (i:=i) (by omega);simp only[aH];simp[DZ,bO.l1,hi,hi',e5,c])
  (fun i hi hi' x c=>by
   obtain⟨v,w,x⟩:=x;simp[DZ,bO.l1,hi,hi',c])
  (fun x=>by
   obtain⟨v,w,x⟩:=x;simp only[aH];simp[DZ,J2,bO.l1])
 have hr2':=fun x=>pc (hr2 x) (show a.gone.length+1≤K by omega)
 simp only[c8,if_true] at hr';by_cases c9:a.gone=b.gone
 ·have he:a=b:=I0 c1 c2 c3 c4 c5 c8 c9;subst he;simp only[if_true] at hr2';simp[J1,Mt,af] at hr';simp[DZ,J2,af] at hr2';simp[a8,bO.m,bO.b,aa,af,ti,Bu,hr',hr2']
 ·have hne:¬a=b:=fun q=>c9 (by rw[q])
  simp only[c9,if_false] at hr2';simp[J1,Mt,af,c1,c2,c3,c4,c5,c8] at hr';simp[DZ,af,c1,c2,c3,c4,c5,c8] at hr2';simp[a8,bO.m,bO.b,aa,af,c1,c2,c3,c4,c5,c7,c8,hne,ti,Bu,hr',hr2']
def alike(a b:aW):Bool:=decide (a.boxes=b.boxes)&&decide (a.gone=b.gone)
def J3(a b:aW)(i:Nat)(x:Nat×Nat×Nat):St:={t:=[(2,.c (.ptr 2 x.1 0 0)),(3,.c (.ptr 3 x.2.1 0 0)),(5,.c (I i))],o:=[(2,⟨x.1,4,true,true,[ai a]⟩),(3,⟨x.2.1,4,true,true,[ai b]⟩)],n:=x.2.2}
def Mu(a b:aW)(x:Nat×Nat×Nat):St:={t:=[(2,.c (.ptr 2 x.1 0 0)),(3,.c (.ptr 3 x.2.1 0 0)),(5,.c (I a.boxes.length)),(27,.c (.bool false))],o:=[(2,⟨x.1,4,true,true,[ai a]⟩),(3,⟨x.2.1,4,true,true,[ai b]⟩)],n:=x.2.2}
def D0(a b:aW)(i:Nat)(x:Nat×Nat×Nat):St:={t:=[(2,.c (.ptr 2 x.1 0 0)),(3,.c (.ptr 3 x.2.1 0 0)),(6,.c (I i))],o:=[(2,⟨x.1,4,true,true,[ai a]⟩),(3,⟨x.2.1,4,true,true,[ai b]⟩)],n:=x.2.2}
def J4(a b:aW)(x:Nat×Nat×Nat):St:={t:=[(2,.c (.ptr 2 x.1 0 0)),(3,.c (.ptr 3 x.2.1 0 0)),(6,.c (I a.gone.length)),(46,.c (.bool false))],o:=[(2,⟨x.1,4,true,true,[ai a]⟩),(3,⟨x.2.1,4,true,true,[ai b]⟩)],n:=x.2.2}
theorem df.al(h:df.k M)(a b:aW)(ha:mo a):run M 31 [.a (ai a),.a (ai b)] []=some (.c (.bool (alike a b)),[]):=by
 obtain⟨h0,k1⟩:=h;refine ao (b:=df.m) h0 ⟨a.boxes.length+a.gone.length+1, ?_⟩;unfold alike;by_cases c6:a.boxes.length=b.boxes.length;rotate_left
 ·have hne:¬a.boxes=b.boxes:=fun q=>c6 (by rw[q])
  have c6':¬(a.boxes.length:Int)=b.boxes.length:=by omega
  simp[a8,df.m,df.b,aa,c6',hne]
 by_cases c7:a.gone.length=b.gone.length;rotate_left
 ·have hne:¬a.gone=b.gone:=fun q=>c7 (by rw[q])
  have c7':¬(a.gone.length:Int)=b.gone.length:=by omega
  simp[a8,df.m,df.b,aa,c6,c7',hne]
 obtain⟨K,hK⟩:∃K,K=a.boxes.length+a.gone.length+1:=⟨_,rfl⟩
 rw[←hK];have hbl:=ha.b;have hgl:=ha.g;obtain⟨g,hr⟩:=tV a.boxes b.boxes c6 (f:=cy (run M) K df.l0) (J3 a b) 4 0 (Mu a b)
  (fun i hi hi' x c=>by
   obtain⟨v,w,x⟩:=x;have e5:=cz (i:=i) (by omega);have hm:=bO.al k1 a.boxes[i] b.boxes[i] (ha.box _ (ar hi));rw[decide_eq_true c] at hm;simp only[af] at hm;simp only[aH];simp[J3,df.l0,hi,hi',e5,af,hm])
  (fun i hi hi' x c=>by
   obtain⟨v,w,x⟩:=x;have hm:=bO.al k1 a.boxes[i] b.boxes[i] (ha.box _ (ar hi));rw[decide_eq_false c] at hm;simp only[af] at hm;simp[J3,df.l0,hi,hi',af,hm])
  (fun x=>by
   obtain⟨v,w,x⟩:=x;simp only[aH];simp[J3,Mu,df.l0])
 have hr':=fun x=>pc (hr x) (show a.boxes.length+1≤K by omega)
 by_cases c8:a.boxes=b.boxes;rotate_left
 ·simp only[c8,if_false] at hr';simp[J3,ai] at hr';simp[a8,df.m,df.b,aa,ai,c6,c7,c8,hr']
 obtain⟨g2,hr2⟩:=tV a.gone b.gone c7 (f:=cy (run M) K df.l1) (D0 a b) 4 2 (J4 a b)
  (fun i hi hi' x c=>by
   obtain⟨v,w,x⟩:=x;have e5:=cz (i:=i) (by omega);simp only[aH];simp[D0,df.l1,hi,hi',e5,c])
  (fun i hi hi' x c=>by
   obtain⟨v,w,x⟩:=x;simp[D0,df.l1,hi,hi',c])
  (fun x=>by
   obtain⟨v,w,x⟩:=x;simp only[aH];simp[D0,J4,df.l1])
 have hr2':=fun x=>pc (hr2 x) (show a.gone.length+1≤K by omega)
 simp only[c8,if_true] at hr';by_cases c9:a.gone=b.gone
 ·simp only[c9,if_true] at hr2';simp[J3,Mu,ai,c8,c9] at hr';simp[D0,J4,ai,c8,c9] at hr2';simp[a8,df.m,df.b,aa,ai,c8,c9,hr',hr2']
 ·simp only[c9,if_false] at hr2';simp[J3,Mu,ai,c8] at hr';simp[D0,ai,c8] at hr2';simp[a8,df.m,df.b,aa,ai,c7,c8,c9,hr',hr2']
theorem iV.al(h:iV.k M)(b:bz)(g:Int):run M 199 [.a (af b),.c (.vp [I g] 0)] []=some (.c (.bool (decide (b.gid=g))),[]):=by
 refine ao (b:=iV.m) h ⟨0, ?_⟩;simp (maxSteps:=9^9) [a8,iV.m,iV.b,aa,af]
theorem gQ.al(h:gQ.k M)(s:aW)(g:Int)(hl:s.boxes.length≤1048576):run M 95 [.a (ai s),.c (I g)] []=some (.c (I (dN (me s.boxes g))),[]):=by
 have h1:=aA.gen h.2.2 (fun b=>iV.al h.2.1 b g) s.boxes hl;refine ao (b:=gQ.m) h.1 ⟨0, ?_⟩;unfold me;simp only[ai,boxes,ints] at h1 ⊢;generalize s.boxes.map af=r at*;generalize ax s.gone=rg at*;simp (maxSteps:=9^9) [a8,gQ.m,gQ.b,aa,h1]
end Mx
namespace Mx
open Go
def Dd(kt ko:List Nat)(n:Nat):Option (List (Nat×V)×List (Nat×Ob))→Option (Out×St)
 |none=>none
 |some r=>some (.normal,{t:=keep kt r.1,o:=keep ko r.2,n:=n})
theorem Ca(kt ko:List Nat)(n:Nat)(t:List (Nat×V))(o:List (Nat×Ob)):Dd kt ko n (some (t,o))=some (.normal,{t:=keep kt t,o:=keep ko o,n:=n}):=rfl
theorem Cb(kt ko:List Nat)(n:Nat):Dd kt ko n none=none:=rfl
theorem IL(cf:cR)(k:Nat)(s:St)(ops:List od)(kt ko:List Nat):cy cf k (.aj ops kt ko) s=Dd kt ko (s.n+16*ops.length) (steps cf s.n 0 ops s.t s.o):=by
 simp only[cy];cases steps cf s.n 0 ops s.t s.o<;>rfl
theorem Gd(cf:cR)(k:Nat)(s:St)(ops:List od)(anc:List (List Nat))(kt ko:List Nat):cy cf k (.gf ops anc kt ko) s=Dd kt ko (s.n+16*ops.length) (j6 cf s.n 0 ops anc s.t s.o []):=by
 simp only[cy];cases j6 cf s.n 0 ops anc s.t s.o []<;>rfl
theorem Gb(cf:cR)(k:Nat)(s:St):cy cf k .skip s=some (.normal,s):=rfl
theorem II(cf:cR)(k:Nat)(s:St)(a b:C):cy cf k (.seq a b) s=match cy cf k a s with|some (.normal,s')=>cy cf k b s'|r=>r:=rfl
theorem Gh(cf:cR)(k:Nat)(s:St)(c:Nat)(a b:C):cy cf k (.cond (.t c) a b) s=match pQ s.t (.t c) with|some true=>cy cf k a s|some false=>cy cf k b s|none=>none:=rfl
theorem Eg(cf:cR)(k:Nat)(s:St)(id:Nat)(a:C):cy cf k (.block id a) s=match cy cf k a s with|some (.exit id',s')=>some (if id'=id then(.normal,s') else(.exit id',s'))|r=>r:=rfl
theorem Gf(cf:cR)(k:Nat)(s:St)(a:C):cy cf k (.loop a) s=fi (cy cf k a) k s:=rfl
theorem Gg(cf:cR)(k:Nat)(s:St)(id:Nat):cy cf k (.exit id) s=some (.exit id,s):=rfl
theorem IK(cf:cR)(k:Nat)(s:St):cy cf k .ret s=some (.ret,s):=rfl
theorem Gc(cf:cR)(k:Nat)(s:St)(ids:List Nat)(a:C):cy cf k (.shut ids a) s=cy cf k a {s with o:=ur ids s.o}:=rfl
theorem Kk(n i:Nat):(lr n).contains i=decide (i<n):=by
 simp only[lr,List.contains_eq_mem,List.mem_range]
theorem H0(n i:Nat)(l:List Nat):(lr n++l).contains i=(decide (i<n)||l.contains i):=by
 simp only[lr,List.contains_eq_mem,iu,List.mem_range,Bool.decide_or]
def L3:Option Ob→List Nat
 |some b=>if b.bx then b.rows.flatMap fun r=>r.flatMap pY else []
 |none=>[]
def Ee(o:List (Nat×Ob)):List Nat→List Nat
 |[]=>[]
 |id::r=>L3 (get o id)++Ee o r
def AV(o:List (Nat×Ob)):List T→List Nat
 |[]=>[]
 |t::ts=>(pY t++Ee o (pY t))++AV o ts
def Iy(o:List (Nat×Ob)):Option V→List Nat
 |some (.c t)=>pY t++Ee o (pY t)
 |some (.a ts)=>AV o ts
 |_=>[]
def wk(t:List (Nat×V))(o:List (Nat×Ob)):List Nat→List Nat
 |[]=>[]
 |x::xs=>Iy o (get t x)++wk t o xs
theorem zQ(o:List (Nat×Ob)):∀l,l.flatMap (pZ o)=Ee o l
 |[]=>rfl
 |x::l=>by
  rw[cH,zQ o l,Ee];congr 1
theorem AU(o:List (Nat×Ob)):∀ts:List T,(ts.flatMap fun t=>pY t++(pY t).flatMap (pZ o))=AV o ts
 |[]=>rfl
 |t::ts=>by rw[cH,AU o ts,AV,zQ]
theorem yr(t:List (Nat×V))(o:List (Nat×Ob)):∀l:List Nat,(l.flatMap fun x=>match get t x with|some v=>pI o v|none=>[])=wk t o l
 |[]=>rfl
 |x::l=>by
  rw[cH,yr t o l,wk];congr 1;cases h:get t x with
  |none=>rfl
  |some v=>
   cases v with
   |c t=>simp only[pI,Iy,zQ]
   |a ts=>simp only[pI,Iy,AU]
   |_=>rfl
theorem E_(t:List (Nat×V))(o:List (Nat×Ob))(m:MO):mq t o m=wk t o m.Ci:=yr t o _
attribute [simp] L3 Ee AV Iy wk
def Ff(t:List (Nat×V))(o:List (Nat×Ob))(d:Option Nat):G3→Option (List (Nat×V)×List (Nat×Ob))
 |none=>none
 |some r=>some (oF t d r.1,r.2++o)
theorem BH(t:List (Nat×V))(o:List (Nat×Ob))(d:Option Nat)(v:V)(u:List (Nat×Ob)):Ff t o d (some (v,u))=some (oF t d v,u++o):=rfl
theorem BI(t:List (Nat×V))(o:List (Nat×Ob))(d:Option Nat):Ff t o d none=none:=rfl
theorem step_eq(cf:cR)(n i:Nat)(m:od)(t:List (Nat×V))(o:List (Nat×Ob)):step cf n i m t o=match wanted t m.guard with
  |some true=>Ff t o m.dst (act cf (n+16*i) (m.dst.getD 0) t o m.op)
  |some false=>some (oF t m.dst .undef,o)
  |none=>none:=by
 unfold step;cases wanted t m.guard with
 |none=>rfl
 |some b=>cases b with
  |false=>rfl
  |true=>simp only[];cases act cf (n+16*i) (m.dst.getD 0) t o m.op<;>rfl
def Fg(t:List (Nat×V))(d:Option Nat):G3→Option (List (Nat×V))
 |none=>none
 |some r=>some (oF t d r.1)
theorem BJ(t:List (Nat×V))(d:Option Nat)(r:V×List (Nat×Ob)):Fg t d (some r)=some (oF t d r.1):=rfl
theorem BK(t:List (Nat×V))(d:Option Nat):Fg t d none=none:=rfl
theorem Fh(cf:cR)(n i:Nat)(m:od)(t:List (Nat×V))(o:List (Nat×Ob)):nG cf n i m t o=match wanted t m.guard with
  |some true=>Fg t m.dst (n_ cf (n+16*i) (m.dst.getD 0) t o m.op)
  |some false=>some (oF t m.dst .undef)
  |none=>none:=by
 unfold nG;cases wanted t m.guard with
 |none=>rfl
 |some b=>cases b with
  |false=>rfl
  |true=>simp only[];cases n_ cf (n+16*i) (m.dst.getD 0) t o m.op<;>rfl
def pP{α:Type}:Nat→List α→List (Nat×α)
 |_,[]=>[]
 |i,x::xs=>(i,x)::pP (i+1) xs
theorem z_{α:Type}:∀(l:List α) (a n:Nat),l.length≤n→(List.range' a n).zip l=pP a l
 |[],a,n,_=>by simp[pP]
 |x::xs,a,0,h=>by simp at h
 |x::xs,a,n+1,h=>by
  simp only[bT] at h;rw[List.range'_succ,List.zip_cons_cons,pP,z_ xs (a+1) n (by omega)]
theorem DF{α:Type}(n:Nat)(l:List α)(h:l.length≤n):(List.range n).zip l=pP 0 l:=by
 rw[List.range_eq_range',z_ l 0 n h]
attribute [simp] pP DF
def Lp:Option Ob→Nat
 |none=>0
 |some b=>b.cF
def AK(o:List (Nat×Ob)):List (Nat×Nat×Ob)→List (Nat×Nat×Nat)
 |[]=>[]
 |l::r=>(l.1,l.2.1,Lp (get o l.2.1))::AK o r
theorem AJ(o:List (Nat×Ob)):∀ls:List (Nat×Nat×Ob),(ls.map fun l=>(l.1,l.2.1,(get o l.2.1).elim 0 (·.cF)))=AK o ls
 |[]=>rfl
 |l::r=>by
  rw[bB,AJ o r,AK];congr 2;cases get o l.2.1<;>rfl
theorem Em(cf:cR)(n:Nat)(o:List (Nat×Ob))(f:Nat)(vals:List V)(lend:List Nat)(thaw:List (Nat×Nat)):jk cf n o f vals lend thaw=
 match args o lend 0 vals with
 |none=>none
 |some (as,ls,b)=>
  if vals.length≤1000∧(ls.map (·.2.1)).all (fun id=> !b.contains id)∧(ls.map (·.2.1)).Nodup then
   match cf f as (ls.map fun l=>(l.1,l.2.2)) with
   |none=>none
   |some (res,after)=>
    match mw n o after ls,back n (AK o ls) thaw res with
    |some gE,some (v,ups')=>if b.isEmpty∨(res.flat∧gE.all fun u=>u.2.rows.all (·.all T.scalar)) then some (v,gE++ups') else none
    |_,_=>none
  else none:=by
 unfold jk;cases args o lend 0 vals with
 |none=>rfl
 |some r=>obtain⟨as,ls,b⟩:=r;simp only[AJ];rfl
attribute [simp] Lp AK
attribute [simp] Ca Cb IL Gd Gb II Gh Eg Gf Gg IK Gc Kk H0 E_ BH BI step_eq BJ BK Fh Em
end Mx
namespace Mx
open Go
attribute [-simp] cy step nG mq pI pZ jk
variable {M:Nat→Option Body}
def MM(l:List bz)(i:Nat)(x:Nat×Nat):St:={t:=[(3,.c (.row 6 x.1 0 i)),(7,.c (boxes l)),(8,.c (I l.length)),(9,.c (I i))],o:=[(6,⟨x.1,7,true,false,(l.take i).map af⟩)],n:=x.2}
def Nw(l:List bz)(x:Nat×Nat):St:={t:=[(3,.c (.row 6 x.1 0 l.length)),(7,.c (boxes l)),(8,.c (I l.length)),(9,.c (I l.length)),(10,.c (.bool false))],o:=[(6,⟨x.1,7,true,false,(l.take l.length).map af⟩)],n:=x.2}
theorem eZ.al(h:eZ.k M)(l:List bz)(hl:l.length≤1048576)(hb:∀b∈l,iw b):run M 270 [.c (boxes l)] []=some (.c (.sl true 7 (l.map af)),[]):=by
 obtain⟨h0,k1⟩:=h;refine ao (b:=eZ.m) h0 ⟨l.length+1, ?_⟩;have er:(l.map af).length=l.length:=by simp
 obtain⟨g,hr⟩:=lh (f:=cy (run M) (l.length+1) eZ.l0) l.length (MM l) 0 (Nw l)
  (fun i hi x=>by
   obtain⟨v,n⟩:=x;have h2:=cA.al k1 l[i] (hb _ (ar hi));have e5:=cz (i:=i) (by omega);have e6:i+1≤4294967296:=by omega
   have e7:((l.take i).map af).length=i:=by simp;omega
   have e8:((l.take (i+1)).map af)=(l.take i).map af++[af l[i]]:=by rw[il _ _ hi,cU];rfl
   have a1:∀hh,(l.map af)[i]'hh=af l[i]:=by intro hh;simp
   simp only[aH,MM,e8,boxes];simp only[af,bM,ae,ints] at h2 a1 ⊢;generalize (l.take i).map af=rr at*;generalize l.map af=rb at*;generalize l[i].ae.map ah=rm at*;generalize ax l[i].gone=rg at*;simp (maxSteps:=9^9) [eZ.l0,ab,setAt,hi,h2,e5,e6,e7,er,a1])
  (fun x=>by
   obtain⟨v,n⟩:=x;simp only[aH,MM,Nw,boxes];generalize (l.take l.length).map af=rr at*;generalize l.map af=rb at*;simp (maxSteps:=9^9) [eZ.l0])
 have hr0:=hr (2000016,2000096);generalize g (2000016,2000096)=y at*;obtain⟨v,n⟩:=y;have ez:((0:Nat):Int)=0:=rfl;simp only[MM,Nw,ez,List.take_zero,bJ,List.take_length,boxes] at hr0;simp only[boxes];generalize l.map af=rb at*;simp (maxSteps:=9^9) [a8,eZ.m,eZ.b,ab,hr0,er]
theorem cr.al(h:cr.k M)(s:aW)(hs:iI s):run M 220 [.a (ai s)] []=some (.a (aS s),[]):=by
 obtain⟨h0,k1,k2⟩:=h;have h1:=fj.al k1 s.gone hs.g;have h2:=eZ.al k2 s.boxes hs.b hs.i;have er:(s.boxes.map af).length=s.boxes.length:=by simp
 have eg:=aI s.gone;refine ao (b:=cr.m) h0 ⟨0, ?_⟩;simp only[ai,aS,boxes,ints] at*;generalize s.boxes.map af=rb at*;generalize ax s.gone=rs at*;simp (maxSteps:=9^9) [a8,cr.m,cr.b,ab,setAt,h1,h2,er,eg]
theorem eh.al(h:eh.k M)(s:aW)(hs: -1000000000≤s.time∧s.time≤1000000000):run M 431 [.a (ai s)] []=some (.a [I (s.time+1),I s.eD],[]):=by
 refine ao (b:=eh.m) h ⟨0, ?_⟩;have e5:IntKind.i64.wrap (s.time+1)=s.time+1:=wrap_i64 (by omega) (by omega);simp only[ai,boxes,ints];simp (maxSteps:=9^9) [a8,eh.m,eh.b,ab,setAt,e5]
theorem gu.al(h:gu.k M)(out s:aW)(ho:iI out)(hs:iI s):
  run M 441 [.a (ai out),.a (ai s)] []=some (.lL [.a (ai (if bu out=true then out else s)),.c (.bool (bu out))],[]):=by
 obtain⟨h0,ko,kc⟩:=h;have h1:=aQ.al ko out ho;have h2:=cr.al kc s hs;have er:(s.boxes.map af).length=s.boxes.length:=by simp
 have eg:=aI s.gone;refine ao (b:=gu.m) h0 ⟨0, ?_⟩;cases c:bu out with
 |true=>
  rw[c] at h1;rw[if_pos rfl];simp only[ai,aS,boxes,ints] at*;generalize s.boxes.map af=rb at*;generalize ax s.gone=rs at*;generalize out.boxes.map af=ob at*;generalize ax out.gone=os at*;simp (maxSteps:=9^9) [a8,gu.m,gu.b,ab,setAt,h1]
 |false=>
  rw[c] at h1;rw[if_neg (by simp)];simp only[ai,aS,boxes,ints] at*;generalize s.boxes.map af=rb at*;generalize ax s.gone=rs at*;generalize out.boxes.map af=ob at*;generalize ax out.gone=os at*;simp (maxSteps:=9^9) [a8,gu.m,gu.b,ab,setAt,h1,h2]
def B_(g:Int)(b:bz):Bool:=decide (b.gid=g)||oG b g
def Lg(s:aW)(g:Int)(i:Nat)(x:Nat):St:={t:=[(1,.c (I g)),(2,.c (.ptr 2 2000000 0 0)),(8,.c (boxes s.boxes)),(9,.c (I s.boxes.length)),(10,.c (I i))],o:=[(2,⟨2000000,4,true,true,[ai s]⟩)],n:=x}
def Nn(s:aW)(g:Int)(x:Nat):St:={t:=[(1,.c (I g)),(2,.c (.ptr 2 2000000 0 0)),(8,.c (boxes s.boxes)),(9,.c (I s.boxes.length)),(10,.c (I s.boxes.length)),(11,.c (.bool false))],o:=[(2,⟨2000000,4,true,true,[ai s]⟩)],n:=x}
theorem A8(l:List bz)(g:Int):(me l g).isSome=l.any fun b=>decide (b.gid=g):=by
 unfold me;rw[tc]
theorem fO.al(h:fO.k M)(s:aW)(g:Int)(hs:iI s):run M 413 [.a (ai s),.c (I g)] []=some (.c (.bool (pV s g)),[]):=by
 obtain⟨h0,ka,ki⟩:=h;have hbl:=hs.b;have hgl:=hs.g;have h2:=aL.al ki s.gone g (by omega);refine ao (b:=fO.m) h0 ⟨s.boxes.length+1, ?_⟩;have er:(s.boxes.map af).length=s.boxes.length:=by simp
 obtain⟨g',hr⟩:=iE (f:=cy (run M) (s.boxes.length+1) fO.l0) s.boxes.length (tC (B_ g) s.boxes) (Lg s g) 4 (.bool true) 0 (Nn s g)
  (fun i hi x c=>by
   rw[jO _ _ _ hi] at c;have hb:=hs.i _ (ar hi);have h3:=cJ.al ka s.boxes[i] g hb.m;have h4:=aL.al ki s.boxes[i].gone g (by have:=hb.g;omega);have e5:=cz (i:=i) (by omega);have a1:∀hh,(s.boxes.map af)[i]'hh=af s.boxes[i]:=by intro hh;simp
   unfold B_ oG at c;simp only[fc,decide_eq_false_iff_not] at c;obtain⟨c0,c1,c2⟩:=c;have c2':decide (g∈s.boxes[i].gone)=false:=decide_eq_false c2;rw[c2'] at h4;have c3:¬(0:Int)≤dN (gh s.boxes[i].ae g):=by
    have:=lE (gh s.boxes[i].ae g);rw[c1] at this;simpa using this
   simp only[Lg,ai,boxes,ints];simp only[af,ae,ints] at h3 h4 a1;generalize dN (gh s.boxes[i].ae g)=z at*;generalize s.boxes.map af=rb at*;generalize s.boxes[i].ae.map ah=rm at*;generalize ax s.boxes[i].gone=rg at*;simp (maxSteps:=9^9) [fO.l0,ab,setAt,hi,c0,h3,h4,c3,e5,er,a1])
  (fun i hi x c=>by
   rw[jO _ _ _ hi] at c;have hb:=hs.i _ (ar hi);have h3:=cJ.al ka s.boxes[i] g hb.m;have h4:=aL.al ki s.boxes[i].gone g (by have:=hb.g;omega);have a1:∀hh,(s.boxes.map af)[i]'hh=af s.boxes[i]:=by intro hh;simp
   unfold B_ oG at c;have c3:=lE (gh s.boxes[i].ae g);simp only[Lg,ai,boxes,ints];simp only[af,ae,ints] at h3 h4 a1;generalize dN (gh s.boxes[i].ae g)=z at*;generalize (gh s.boxes[i].ae g).isSome=w at*;generalize decide (g∈s.boxes[i].gone)=w2 at*;generalize s.boxes.map af=rb at*;generalize s.boxes[i].ae.map ah=rm at*;generalize ax s.boxes[i].gone=rg at*;by_cases c0:s.boxes[i].gid=g
   ·simp (maxSteps:=9^9) [fO.l0,ab,setAt,hi,c0,er,a1]
   rw[decide_eq_false c0] at c;cases w
   ·simp only[decide_eq_false_iff_not] at c3;simp only[Bool.false_or] at c;subst c;simp (maxSteps:=9^9) [fO.l0,ab,setAt,hi,c0,h3,h4,c3,er,a1]
   ·simp only[decide_eq_true_eq] at c3;simp (maxSteps:=9^9) [fO.l0,ab,setAt,hi,c0,h3,c3,er,a1])
  (fun x=>by
   simp only[Lg,Nn,ai,boxes,ints];generalize s.boxes.map af=rb at*;simp (maxSteps:=9^9) [fO.l0])
 have hany:pV s g=((eE (tC (B_ g) s.boxes) s.boxes.length).isSome||decide (g∈s.gone)):=by
  unfold pV;rw[A8,←tc];have:s.boxes.any (B_ g)=((s.boxes.any fun b=>decide (b.gid=g))||s.boxes.any fun b=>oG b g):=by
   induction s.boxes with
   |nil=>rfl
   |cons x l ih=>
    simp only[List.any_cons,ih,B_];cases decide (x.gid=g)<;>cases oG x g<;>simp
  rw[this];generalize (s.boxes.any fun b=>decide (b.gid=g))=p;generalize (s.boxes.any fun b=>oG b g)=q;cases p<;>cases q<;>cases decide (g∈s.gone)<;>rfl
 rw[hany];generalize decide (g∈s.gone)=w2 at*;have ez:((0:Nat):Int)=0:=rfl;cases hq:eE (tC (B_ g) s.boxes) s.boxes.length with
 |none=>
  simp only[Lg,Nn,hq,lv,ez] at hr;simp only[ai,boxes,ints] at*;simp (maxSteps:=9^9) [a8,fO.m,fO.b,h2,hr]
 |some q=>
  simp only[Lg,hq,lv,ez] at hr;simp only[ai,boxes,ints] at*;simp (maxSteps:=9^9) [a8,fO.m,fO.b,hr]
theorem pb(h:gu.k M)(s:aW)(i:Nat)(b:bz)(ho:iI (gS s i b))(hs:iI s):
  run M 441 [.a [I s.eD,I (s.time+1),.sl false 7 ((s.boxes.map af).set i (af b)),ints s.gone],.a (ai s)] []=some (.lL [.a (ai (stamped s i b).1),.c (.bool (stamped s i b).2)],[]):=by
 have h1:=gu.al h (gS s i b) s ho hs;have e:ai (gS s i b)=[I s.eD,I (s.time+1),.sl false 7 ((s.boxes.map af).set i (af b)),ints s.gone]:=by simp only[ai,gS,boxes,fR]
 rw[e] at h1;rw[h1];unfold stamped;cases bu (gS s i b)<;>rfl
theorem fq.al(h:fq.k M)(s:aW)(hs:m7 s)(g m f:Int)(x:List UInt8):
  run M 410 [.a (ai s),.c (I g),.c (I m),.c (I f),.c (S x)] []=some (.lL [.a (ai (lM s g m f x).1),.c (.bool (lM s g m f x).2)],[]):=by
 obtain⟨h0,ka,kb,ko,kc,kk,kn,kst⟩:=h;have ht:=hs.time;have e5:IntKind.i64.wrap (s.time+1)=s.time+1:=wrap_i64 (by omega) (by omega);have h1:=gQ.al kb s g hs.kU.b;have h2:=aQ.al ko s hs.kU;have h3:=fO.al kk s m hs.kU;have h4:=cr.al kc s hs.kU;have h5:=eh.al kn s hs.time;have er:(s.boxes.map af).length=s.boxes.length:=by simp
 have eg:=aI s.gone;refine ao (b:=fq.m) h0 ⟨0, ?_⟩;unfold lM;cases c1:bu s with
 |false=>
  rw[c1] at h2;simp only[ay,false_and,if_false];simp only[ai,aS,boxes,ints] at*;generalize s.boxes.map af=rb at*;generalize ax s.gone=rs at*;simp (maxSteps:=9^9) [a8,fq.m,fq.b,ab,setAt,h1,h2,h4,er,eg]
 |true=>
  rw[c1] at h2;cases c2:pV s m with
  |true=>
   rw[c2] at h3;simp only[Bool.true_eq_false,and_false,if_false];simp only[ai,aS,boxes,ints] at*;generalize s.boxes.map af=rb at*;generalize ax s.gone=rs at*;simp (maxSteps:=9^9) [a8,fq.m,fq.b,ab,setAt,h1,h2,h3,h4,er,eg]
  |false=>
   rw[c2] at h3;rw[if_pos ⟨rfl,rfl⟩];cases c3:me s.boxes g with
   |none=>
    rw[c3] at h1;rw[lQ c3];simp only[ai,aS,boxes,ints,dN] at*;generalize s.boxes.map af=rb at*;generalize ax s.gone=rs at*;simp (maxSteps:=9^9) [a8,fq.m,fq.b,ab,setAt,h1,h2,h3,h4,er,eg]
   |some i=>
    rw[c3] at h1;obtain⟨hi,_⟩:=iO c3;rw[lP c3 hi];have hG:=(eT c1).boxes.j2 _ (ar hi);have h6:=eC.al ka s.boxes[i] hG.tM m f x (s.time+1) s.eD;have hin:=xT hG.tM m f x (s.time+1) s.eD;have h7:=pb kst s i (kF s.boxes[i] m f x (s.time+1) s.eD).1 (nO hs.kU hi hin (by have:=om c1;have:=sQ hG m f x (s.time+1) s.eD;omega)) hs.kU;have a1:∀hh,(s.boxes.map af)[i]'hh=af s.boxes[i]:=by intro hh;simp
    have ni:¬(i:Int)<0:=by omega
    generalize kF s.boxes[i] m f x (s.time+1) s.eD=A at*;obtain⟨b',ok⟩:=A;generalize stamped s i b'=B at*;obtain⟨s',ok'⟩:=B;have er2:(s'.boxes.map af).length=s'.boxes.length:=by simp
    have eg2:=aI s'.gone;simp only[ai,aS,boxes,ints,dN] at h1 h2 h3 h4 h5 h7 ⊢;simp only[af,bM,ae,ints] at h6 h7 a1;generalize hrb:s.boxes.map af=rb at*;generalize hrs:ax s.gone=rs at*;generalize s.boxes[i].ae.map ah=r1 at*;generalize ax s.boxes[i].gone=r2 at*;generalize b'.ae.map ah=r3 at*;generalize ax b'.gone=r4 at*;cases ok
    ·simp only[ay,if_false];simp (maxSteps:=9^9) [a8,fq.m,fq.b,ab,setAt,hi,ni,h1,h2,h3,h4,h5,h6,er,eg,a1];exact⟨hrb.symm,hrs.symm⟩
    ·simp only[if_true];generalize s'.boxes.map af=rb' at*;generalize ax s'.gone=rs' at*;simp (maxSteps:=9^9) [a8,fq.m,fq.b,ab,setAt,hi,ni,h1,h2,h3,h4,h5,h6,h7,e5,er,eg,a1]
theorem fk.al(h:fk.k M)(s:aW)(hs:m7 s)(g m f:Int):
  run M 428 [.a (ai s),.c (I g),.c (I m),.c (I f)] []=some (.lL [.a (ai (kM s g m f).1),.c (.bool (kM s g m f).2)],[]):=by
 obtain⟨h0,ka,kb,ko,kc,kn,kst⟩:=h;have ht:=hs.time;have e5:IntKind.i64.wrap (s.time+1)=s.time+1:=wrap_i64 (by omega) (by omega);have h1:=gQ.al kb s g hs.kU.b;have h2:=aQ.al ko s hs.kU;have h4:=cr.al kc s hs.kU;have h5:=eh.al kn s hs.time;have er:(s.boxes.map af).length=s.boxes.length:=by simp
 have eg:=aI s.gone;refine ao (b:=fk.m) h0 ⟨0, ?_⟩;unfold kM;cases c1:bu s with
 |false=>
  rw[c1] at h2;simp only[ay,if_false];simp only[ai,aS,boxes,ints] at*;generalize s.boxes.map af=rb at*;generalize ax s.gone=rs at*;simp (maxSteps:=9^9) [a8,fk.m,fk.b,ab,setAt,h1,h2,h4,er,eg]
 |true=>
  rw[c1] at h2;rw[if_pos rfl];cases c3:me s.boxes g with
  |none=>
   rw[c3] at h1;rw[lQ c3];simp only[ai,aS,boxes,ints,dN] at*;generalize s.boxes.map af=rb at*;generalize ax s.gone=rs at*;simp (maxSteps:=9^9) [a8,fk.m,fk.b,ab,setAt,h1,h2,h4,er,eg]
  |some i=>
   rw[c3] at h1;obtain⟨hi,_⟩:=iO c3;rw[lP c3 hi];have hG:=(eT c1).boxes.j2 _ (ar hi);have h6:=dR.al ka s.boxes[i] hG.tM m f (s.time+1) s.eD;have hin:=vq hG.tM m f (s.time+1) s.eD;have h7:=pb kst s i (jJ s.boxes[i] m f (s.time+1) s.eD).1 (nO hs.kU hi hin (by have:=om c1;have:=rI hG m f (s.time+1) s.eD;omega)) hs.kU;have a1:∀hh,(s.boxes.map af)[i]'hh=af s.boxes[i]:=by intro hh;simp
   have ni:¬(i:Int)<0:=by omega
   generalize jJ s.boxes[i] m f (s.time+1) s.eD=A at*;obtain⟨b',ok⟩:=A;generalize stamped s i b'=B at*;obtain⟨s',ok'⟩:=B;have er2:(s'.boxes.map af).length=s'.boxes.length:=by simp
   have eg2:=aI s'.gone;simp only[ai,aS,boxes,ints,dN] at h1 h2 h4 h5 h7 ⊢;simp only[af,bM,ae,ints] at h6 h7 a1;generalize hrb:s.boxes.map af=rb at*;generalize hrs:ax s.gone=rs at*;generalize s.boxes[i].ae.map ah=r1 at*;generalize ax s.boxes[i].gone=r2 at*;generalize b'.ae.map ah=r3 at*;generalize ax b'.gone=r4 at*;cases ok
   ·simp only[ay,if_false];simp (maxSteps:=9^9) [a8,fk.m,fk.b,ab,setAt,hi,ni,h1,h2,h4,h5,h6,er,eg,a1];exact⟨hrb.symm,hrs.symm⟩
   ·simp only[if_true];generalize s'.boxes.map af=rb' at*;generalize ax s'.gone=rs' at*;simp (maxSteps:=9^9) [a8,fk.m,fk.b,ab,setAt,hi,ni,h1,h2,h4,h5,h6,h7,e5,er,eg,a1]
theorem fm.al(h:fm.k M)(s:aW)(hs:m7 s)(g m:Int):
  run M 429 [.a (ai s),.c (I g),.c (I m)] []=some (.lL [.a (ai (kN s g m).1),.c (.bool (kN s g m).2)],[]):=by
 obtain⟨h0,kt,kb,ko,kc⟩:=h;have h1:=gQ.al kb s g hs.kU.b;have h2:=aQ.al ko s hs.kU;have h4:=cr.al kc s hs.kU;have er:(s.boxes.map af).length=s.boxes.length:=by simp
 have eg:=aI s.gone;refine ao (b:=fm.m) h0 ⟨0, ?_⟩;unfold kN;cases c1:bu s with
 |false=>
  rw[c1] at h2;simp only[ay,if_false];simp only[ai,aS,boxes,ints] at*;generalize s.boxes.map af=rb at*;generalize ax s.gone=rs at*;simp (maxSteps:=9^9) [a8,fm.m,fm.b,ab,setAt,h1,h2,h4,er,eg]
 |true=>
  rw[c1] at h2;rw[if_pos rfl];cases c3:me s.boxes g with
  |none=>
   rw[c3] at h1;rw[lQ c3];simp only[ai,aS,boxes,ints,dN] at*;generalize s.boxes.map af=rb at*;generalize ax s.gone=rs at*;simp (maxSteps:=9^9) [a8,fm.m,fm.b,ab,setAt,h1,h2,h4,er,eg]
  |some i=>
   rw[c3] at h1;obtain⟨hi,_⟩:=iO c3;rw[lP c3 hi];have hG:=(eT c1).boxes.j2 _ (ar hi);have h6:=fW.al kt s.boxes[i] hG.tM m;have a1:∀hh,(s.boxes.map af)[i]'hh=af s.boxes[i]:=by intro hh;simp
   have ni:¬(i:Int)<0:=by omega
   generalize jY s.boxes[i] m=A at*;obtain⟨b',ok⟩:=A;have es:(s.boxes.set i b').map af=(s.boxes.map af).set i (af b'):=fR;simp only[ai,aS,boxes,ints,dN] at h1 h2 h4 ⊢;simp only[af,bM,ae,ints] at h6 a1 es;cases ok
   ·simp only[ay,if_false];generalize s.boxes.map af=rb at*;generalize ax s.gone=rs at*;generalize s.boxes[i].ae.map ah=r1 at*;generalize ax s.boxes[i].gone=r2 at*;generalize b'.ae.map ah=r3 at*;generalize ax b'.gone=r4 at*;simp (maxSteps:=9^9) [a8,fm.m,fm.b,ab,setAt,hi,ni,h1,h2,h4,h6,er,eg,a1]
   ·simp only[if_true,es];clear es;generalize s.boxes.map af=rb at*;generalize ax s.gone=rs at*;generalize s.boxes[i].ae.map ah=r1 at*;generalize ax s.boxes[i].gone=r2 at*;generalize b'.ae.map ah=r3 at*;generalize ax b'.gone=r4 at*;simp (maxSteps:=9^9) [a8,fm.m,fm.b,ab,setAt,hi,ni,h1,h2,h4,h6,er,eg,a1]
theorem ec.al(h:ec.k M)(s:aW)(hs:m7 s)(g:Int)(nm:List UInt8)(hn:nm.length≤1048576):
  run M 411 [.a (ai s),.c (I g),.c (S nm)] []=some (.lL [.a (ai (jV s g nm).1),.c (.bool (jV s g nm).2)],[]):=by
 obtain⟨h0,kb,ko,kc,kn,kst,koe⟩:=h;have ht:=hs.time;have h1:=gQ.al kb s g hs.kU.b;have h2:=aQ.al ko s hs.kU;have h3:=dS.al kn s nm hs.kU.b;have h4:=cr.al kc s hs.kU;have h5:=eh.al kst s hs.time;have er:(s.boxes.map af).length=s.boxes.length:=by simp
 have eg:=aI s.gone;have e5:IntKind.i64.wrap (s.time+1)=s.time+1:=wrap_i64 (by omega) (by omega);refine ao (b:=ec.m) h0 ⟨0, ?_⟩;unfold jV;cases c1:bu s with
 |false=>
  rw[c1] at h2;simp only[ay,false_and,if_false];simp only[ai,aS,boxes,ints] at*;generalize s.boxes.map af=rb at*;generalize ax s.gone=rs at*;simp (maxSteps:=9^9) [a8,ec.m,ec.b,ab,setAt,h1,h2,h4,er,eg]
 |true=>
  rw[c1] at h2;cases c3:me s.boxes g with
  |none=>
   rw[c3] at h1;have e:(if true=true∧(named s.boxes nm).isSome=false then at_ s g fun i b=>stamped s i (j0 s nm b) else(s,false))=(s,false):=by
    rw[lQ c3];split<;>rfl
   rw[e];simp only[ai,aS,boxes,ints,dN] at*;generalize s.boxes.map af=rb at*;generalize ax s.gone=rs at*;simp (maxSteps:=9^9) [a8,ec.m,ec.b,ab,setAt,h1,h2,h4,er,eg]
  |some i=>
   rw[c3] at h1;obtain⟨hi,_⟩:=iO c3;have ni:¬(i:Int)<0:=by omega
   have c0:=lE (named s.boxes nm);cases c2:(named s.boxes nm).isSome with
   |true=>
    rw[c2] at c0;simp only[decide_eq_true_eq] at c0;simp only[Bool.true_eq_false,and_false,if_false];generalize dN (named s.boxes nm)=z at*;simp only[ai,aS,boxes,ints,dN] at*;generalize s.boxes.map af=rb at*;generalize ax s.gone=rs at*;simp (maxSteps:=9^9) [a8,ec.m,ec.b,ab,setAt,ni,c0,h1,h2,h3,h4,er,eg]
   |false=>
    rw[c2] at c0;simp only[decide_eq_false_iff_not] at c0;rw[if_pos ⟨rfl,rfl⟩,lP c3 hi];have hG:=(eT c1).boxes.j2 _ (ar hi);have hin:iw (j0 s nm s.boxes[i]):=⟨hG.tM.m,hG.tM.g,hn,hG.tM.f⟩;have h6:=pb koe s i (j0 s nm s.boxes[i]) (nO hs.kU hi hin (by have:=om c1;have:=hG.len;simp only[j0];omega)) hs.kU;have a1:∀hh,(s.boxes.map af)[i]'hh=af s.boxes[i]:=by intro hh;simp
    generalize stamped s i (j0 s nm s.boxes[i])=B at*;obtain⟨s',ok'⟩:=B;generalize dN (named s.boxes nm)=z at*;simp only[ai,aS,boxes,ints,dN] at h1 h2 h3 h4 h5 h6 ⊢;simp only[af,ae,ints,j0] at h6 a1 ⊢;generalize s'.boxes.map af=rb' at*;generalize ax s'.gone=rs' at*;generalize s.boxes.map af=rb at*;generalize ax s.gone=rs at*;generalize s.boxes[i].ae.map ah=r1 at*;generalize ax s.boxes[i].gone=r2 at*;simp (maxSteps:=9^9) [a8,ec.m,ec.b,ab,setAt,hi,ni,c0,h1,h2,h3,h4,h5,h6,e5,er,eg,a1]
theorem sw(h:bf.k M)(p:List (List T))(x:List T)(q:List (List T))(hl:p.length+(q.length+1)≤1048576):
  run M 442 [.c (.row 0 0 0 (p.length+(q.length+1))),.c (I p.length),.c (I ((p.length:Int)+1))] [(0,⟨0,7,true,false,p++x::q⟩)]=
   some (.c (.row 0 0 0 (p.length+q.length)),[(0,⟨0,7,true,false,p++q++[rR]⟩)]):=by
 refine ao (b:=bf.m) h ⟨0, ?_⟩;obtain⟨q',y,hy,hq'⟩:=Dc x q;have g1:(0:Int)≤(p.length:Int)+1:=by omega
 have g2:¬(p.length:Int)=(p.length:Int)+1:=by omega
 have g3:(p++x::q).take p.length=p:=by simp
 have g4:(p++x::q).drop (p.length+1)=q:=by simp
 have g5:(p++x::q).drop (p.length+q.length)=[y]:=by
  rw[hy,←hq',List.drop_append];simp
 have g6:p.length+(q.length+1)-(p.length+1)=q.length:=by omega
 have g7:(p++x::q).length=p.length+(q.length+1):=by simp
 have g8:p.length+(q.length+1)-(p.length+q.length)=1:=by omega
 have g9:p.length+q.length≤p.length+(q.length+1):=by omega
 have g10:p.length+q.length≤4294967296:=by omega
 have g11:¬p.length+q.length=p.length+(q.length+1):=by omega
 have g12:(p++q++[y]).length=p.length+(q.length+1):=by simp
 have g13:(p++q++[y]).take (p.length+q.length)=p++q:=by rw[←aC,List.take_left]
 have g19:(1:Int)≤(q.length:Int)+1:=by omega
 have g20:1≤q.length+1:=by omega
 have g14:(p++q++[y]).drop (p.length+(q.length+1))=[]:=eK (by rw[g12];omega);have g15:p.length+1≤p.length+(q.length+1):=by omega
 have g16:p.length+q.length+1=p.length+(q.length+1):=by omega
 have g17:(0:Int)≤(p.length:Int)+(q.length:Int):=by omega
 have g18:(0:Int)≤(p.length:Int)+((q.length:Int)+1):=by omega
 have g21:p.length+1+q.length≤p.length+(q.length+1):=by omega
 have g22:1+q.length≤q.length+1:=by omega
 generalize hR:p++x::q=R at*;simp only[ct] at g12 g13 g14;by_cases hq0:q=[]
 ·subst hq0;by_cases hz:p.length=0
  ·have hp:p=[]:=ba hz;subst hp;simp at g1 g2 g3 g4 g5 g6 g7 g8 g9 g10 g11 g12 g13 g14 g15 g16 g17 g18;simp (maxSteps:=9^9) (disch:=(first|omega|(simp;done)|(simp;omega))) [a8,bf.m,bf.b,g5]
  ·simp at g1 g2 g3 g4 g5 g6 g7 g8 g9 g10 g11 g12 g13 g14 g15 g16 g17 g18;simp (maxSteps:=9^9) (disch:=(first|omega|(simp;done)|(simp;omega))) [a8,bf.m,bf.b,g1,g2,g3,g5,g7,g10,hz]
 ·have g23:((p.length:Int)+(q.length:Int)).toNat=p.length+q.length:=by omega
  have g24:((p.length:Int)+((q.length:Int)+1)).toNat=p.length+(q.length+1):=by omega
  have g25:max ((p.length:Int)+(q.length:Int)) 0≤(p.length:Int)+((q.length:Int)+1):=by omega
  by_cases hz:p.length=0
  ·have hp:p=[]:=ba hz;subst hp;simp at g1 g2 g3 g4 g5 g6 g7 g8 g9 g10 g11 g12 g13 g14 g15 g16 g17 g18;simp (maxSteps:=9^9) (disch:=(first|omega|(simp;done)|(simp;omega))) [a8,bf.m,bf.b,ab,g4,g5,g7,g10,g18,g20,g22,hq0]
  ·simp (maxSteps:=9^9) (disch:=(first|omega|(simp;done)|(simp;omega))) [a8,bf.m,bf.b,ab,g1,g2,g3,g4,g5,g6,g7,g8,g9,g10,g12,g13,g14,g15,g16,g17,g18,g21,g23,g24,hz,hq0]
theorem tq(h:bf.k M)(r:List (List T))(k:Nat)(hk:k<r.length)(hl:r.length≤1048576):
  run M 442 [.c (.row 0 0 0 r.length),.c (I k),.c (I ((k:Int)+1))] [(0,⟨0,7,true,false,r⟩)]=
   some (.c (.row 0 0 0 (r.length-1)),[(0,⟨0,7,true,false,r.take k++r.drop (k+1)++[rR]⟩)]):=by
 have e:r.take k++r[k]::r.drop (k+1)=r:=by simp
 have:=sw h (r.take k) r[k] (r.drop (k+1)) (by simp;omega);rw[e] at this;have e1:(r.take k).length=k:=by simp;omega
 have e2:(r.drop (k+1)).length=r.length-(k+1):=by simp
 rw[e1,e2] at this;have e3:k+(r.length-(k+1)+1)=r.length:=by omega
 have e4:k+(r.length-(k+1))=r.length-1:=by omega
 rw[e3,e4] at this;exact this
theorem fX.al(h:fX.k M)(s:aW)(hs:m7 s)(g:Int):
  run M 412 [.a (ai s),.c (I g)] []=some (.lL [.a (ai (lO s g).1),.c (.bool (lO s g).2)],[]):=by
 obtain⟨h0,kb,ko,kp,kc,kd⟩:=h;have h1:=gQ.al kb s g hs.kU.b;have h2:=aQ.al ko s hs.kU;have h4:=cr.al kc s hs.kU;have h5:=jv.al kp s.gone g hs.kU.g;have er:(s.boxes.map af).length=s.boxes.length:=by simp
 have eg:=aI s.gone;have hbl:=hs.kU.b;refine ao (b:=fX.m) h0 ⟨0, ?_⟩;unfold lO;cases c1:bu s with
 |false=>
  rw[c1] at h2;simp only[ay,false_and,if_false];simp only[ai,aS,boxes,ints] at*;generalize s.boxes.map af=rb at*;generalize ax s.gone=rs at*;simp (maxSteps:=9^9) [a8,fX.m,fX.b,ab,setAt,h1,h2,h4,er,eg]
 |true=>
  rw[c1] at h2;cases c3:me s.boxes g with
  |none=>
   rw[c3] at h1;have e:(if true=true∧s.gone.length<20 then at_ s g fun i _=>({s with boxes:=s.boxes.take i++s.boxes.drop (i+1),gone:=kY s.gone g},true) else(s,false))=(s,false):=by
    rw[lQ c3];split<;>rfl
   rw[e];simp only[ai,aS,boxes,ints,dN] at*;generalize s.boxes.map af=rb at*;generalize ax s.gone=rs at*;simp (maxSteps:=9^9) [a8,fX.m,fX.b,ab,setAt,h1,h2,h4,er,eg]
  |some i=>
   rw[c3] at h1;obtain⟨hi,_⟩:=iO c3;have ni:¬(i:Int)<0:=by omega
   by_cases c2:s.gone.length<20
   ·have n2:¬s.gone.length=20:=by omega
    have n3:¬(s.gone.length:Int)=20:=by omega
    rw[if_pos ⟨rfl,c2⟩,lP c3 hi];rw[Bm (jx.1 c1).gone] at h5;have h6:=tq kd (s.boxes.map af) i (by rw[er];exact hi) (by rw[er];exact hbl);rw[er] at h6;have e9:=cz (i:=i) (by omega);have e10:(s.boxes.take i++s.boxes.drop (i+1)).map af=(s.boxes.map af).take i++(s.boxes.map af).drop (i+1):=by simp[List.map_take,List.map_drop]
    have e11:((s.boxes.map af).take i++((s.boxes.map af).drop (i+1)++[rR])).take (s.boxes.length-1)=(s.boxes.map af).take i++(s.boxes.map af).drop (i+1):=by
     rw[←ct];exact List.take_left' (by simp;omega)
    have e12:=aI (kY s.gone g);have e13:s.boxes.length≤min i s.boxes.length+(s.boxes.length-(i+1)+1)+1:=by omega
    simp only[ai,aS,boxes,ints,dN,e10] at h1 h2 h4 h5 h6 ⊢;generalize ax (kY s.gone g)=rp at*;generalize s.boxes.map af=rb at*;generalize ax s.gone=rs at*;simp (maxSteps:=9^9) [a8,fX.m,fX.b,ab,setAt,ni,n3,h1,h2,h4,h5,h6,e9,e11,e12,e13,er,eg]
   ·have c2':(s.gone.length:Int)=20:=by have:=(jx.1 c1).nL;omega
    have c2'':s.gone.length=20:=by have:=(jx.1 c1).nL;omega
    simp only[c2,and_false,if_false];simp only[ai,aS,boxes,ints,dN] at*;generalize s.boxes.map af=rb at*;generalize ax s.gone=rs at*;simp (maxSteps:=9^9) [a8,fX.m,fX.b,ab,setAt,ni,c2'',h1,h2,h4,er,eg]
theorem Js(p:bz→Bool):∀l:List bz,(∀i (h:i<l.length),i<(l.takeWhile p).length→p l[i]=true)∧(∀h:(l.takeWhile p).length<l.length,p l[(l.takeWhile p).length]=false)
 |[]=>⟨fun i h=>by simp at h,fun h=>by simp at h⟩
 |x::l=>by
  obtain⟨h1,h2⟩:=Js p l;by_cases c:p x=true
  ·simp only[List.takeWhile_cons,c,if_true,bT];refine⟨fun i h hi=> ?_,fun h=> ?_⟩
   ·cases i with
    |zero=>simpa using c
    |succ i=>simpa using h1 i (by simpa using h) (by omega)
   ·simpa using h2 (by omega)
  ·have c':p x=false:=by simpa using c
   simp only[List.takeWhile_cons,c',ay,if_false,eJ];exact⟨fun i h hi=>by omega,fun _=>by simpa using c'⟩
theorem E9(p:bz→Bool)(l:List bz):(l.takeWhile p).length≤l.length:=by
 have:=congrArg List.length (List.takeWhile_append_dropWhile (p:=p) (l:=l));simp only[aC] at this;omega
theorem Ho(p:bz→Bool)(l:List bz):l.take (l.takeWhile p).length=l.takeWhile p:=by
 have:=List.takeWhile_append_dropWhile (p:=p) (l:=l);exact(congrArg (List.take _) this.symm).trans (List.take_left' rfl)
theorem Hp(p:bz→Bool)(l:List bz):l.drop (l.takeWhile p).length=l.dropWhile p:=by
 have:=List.takeWhile_append_dropWhile (p:=p) (l:=l);exact(congrArg (List.drop _) this.symm).trans (List.drop_left' rfl)
theorem yq(g:Int):∀l:List bz,(l.Pairwise fun x y=>x.gid<y.gid)→(∀b∈l,b.gid≠g)→
  l.takeWhile (fun b=>decide (b.gid<g))=l.filter (fun b=>decide (b.gid<g))∧l.dropWhile (fun b=>decide (b.gid<g))=l.filter (fun b=>decide (g<b.gid))
 |[],_,_=>⟨rfl,rfl⟩
 |x::l,ha,hn=>by
  rw[List.pairwise_cons] at ha;obtain⟨h1,h2⟩:=yq g l ha.2 fun b hb=>hn b (bq _ hb)
  have hx:=hn x (bh ..);by_cases c:x.gid<g
  ·have c':¬g<x.gid:=by omega
   simp only[List.takeWhile_cons,List.dropWhile_cons,iP,c,c',decide_true,decide_false,if_true,ay,if_false,h1,h2,and_self]
  ·have c':g<x.gid:=by omega
   simp only[List.takeWhile_cons,List.dropWhile_cons,iP,c,c',decide_true,decide_false,if_true,ay,if_false];have f1:l.filter (fun b=>decide (b.gid<g))=[]:=List.filter_eq_nil_iff.2 fun b hb=>by have:=ha.1 b hb;simp;omega
   have f2:l.filter (fun b=>decide (g<b.gid))=l:=List.filter_eq_self.2 fun b hb=>by have:=ha.1 b hb;simp;omega
   rw[f1,f2];exact⟨rfl,rfl⟩
structure MR where
 s:aW
 g:Int
 nm:List UInt8
 u3:Nat
 u6:Nat
 u8:Nat
 w2:Nat
 w3:Nat
def LW(c:MR):List (Nat×Ob):=[(3,⟨c.u3,4,true,true,[ai c.s]⟩),(6,⟨c.u6,4,true,true,[oz]⟩),(8,⟨c.u8,4,true,true,[[I c.s.eD,I c.s.time,.row 11102 c.w2 0 c.s.boxes.length,.row 11103 c.w3 0 c.s.gone.length]]⟩),(11102,⟨c.w2,7,true,false,c.s.boxes.map af⟩),(11103,⟨c.w3,1,true,false,ax c.s.gone⟩)]
def LV(c:MR)(i:Nat)(n:Nat):St:={t:=[(1,.c (I c.g)),(2,.c (S c.nm)),(3,.c (.ptr 3 c.u3 0 0)),(6,.c (.ptr 6 c.u6 0 0)),(8,.c (.ptr 8 c.u8 0 0)),(9,.c (I i))],o:=LW c,n:=n}
def MJ(c:MR)(i:Nat)(n:Nat):St:={t:=[(1,.c (I c.g)),(2,.c (S c.nm)),(3,.c (.ptr 3 c.u3 0 0)),(6,.c (.ptr 6 c.u6 0 0)),(8,.c (.ptr 8 c.u8 0 0)),(9,.c (I i)),(41,.c (.bool false))],o:=LW c,n:=n}
theorem H6(k:Nat)(c:MR)(hl:c.s.boxes.length≤1048576):
  ∃f:Nat→Nat,∀n,fi (cy (run M) k dh.l0) ((c.s.boxes.takeWhile fun b=>decide (b.gid<c.g)).length+1) (LV c 0 n)=some (.exit 0,MJ c (c.s.boxes.takeWhile fun b=>decide (b.gid<c.g)).length (f n)):=by
 have er:(c.s.boxes.map af).length=c.s.boxes.length:=by simp
 have htl:=E9 (fun b:bz=>decide (b.gid<c.g)) c.s.boxes;obtain⟨t1,t2⟩:=Js (fun b:bz=>decide (b.gid<c.g)) c.s.boxes;generalize (c.s.boxes.takeWhile fun b=>decide (b.gid<c.g)).length=at' at*;exact lh (f:=cy (run M) k dh.l0) at' (LV c) 0 (MJ c at')
  (fun i hi n=>by
   have hi2:i<c.s.boxes.length:=by omega
   have q:=t1 i hi2 hi;simp only[decide_eq_true_eq] at q;have e5:=cz (i:=i) (by omega);have a1:∀hh,(c.s.boxes.map af)[i]'hh=af c.s.boxes[i]:=by intro hh;simp
   simp only[LV,LW,ai,boxes,ints];simp only[af,ae,ints] at a1;generalize c.s.boxes.map af=rb at*;generalize ax c.s.gone=rs at*;generalize c.s.boxes[i].ae.map ah=r1 at*;generalize ax c.s.boxes[i].gone=r2 at*;simp (maxSteps:=9^9) [dh.l0,hi2,q,e5,er,a1])
  (fun n=>by
   simp only[LV,MJ,LW,ai,boxes,ints];by_cases c9:at'<c.s.boxes.length
   ·have q:=t2 c9;simp only[decide_eq_false_iff_not] at q;have a1:∀hh,(c.s.boxes.map af)[at']'hh=af c.s.boxes[at']:=by intro hh;simp
    simp only[af,ae,ints] at a1;generalize c.s.boxes.map af=rb at*;generalize ax c.s.gone=rs at*;generalize c.s.boxes[at'].ae.map ah=r1 at*;generalize ax c.s.boxes[at'].gone=r2 at*;simp (maxSteps:=9^9) [dh.l0,c9,q,er,a1]
   ·generalize c.s.boxes.map af=rb at*;generalize ax c.s.gone=rs at*;simp (maxSteps:=9^9) [dh.l0,c9])
theorem D_{s:aW}{g:Int}(h:pV s g=false):∀b∈s.boxes,b.gid≠g:=by
 intro b hb e;unfold pV at h;rw[A8] at h;simp only[fc,List.any_eq_false,decide_eq_true_eq] at h;exact h.1.1 b hb e
theorem Ix(h:M 440=some (.ext Cd))(r:List (List T))(x:List T)(i:Nat)(hi:i≤r.length)(hl:r.length≤1048576):
  run M 440 [.c (.row 0 0 0 r.length),.c (I i),.c (.row 2 2 0 1)] [(0,⟨0,7,true,false,r⟩),(2,⟨2,7,true,false,[x]⟩)]=some (.c (.sl true 7 (r.take i++[x]++r.drop i)),[(2,⟨2,7,true,false,[x]⟩)]):=by
 refine zn h ?_;have h1:(0:Int)≤(i:Int):=by omega
 have h2:(i:Int)≤(r.length:Int):=by omega
 simp only[Cd,eS,bU,Nat.le_refl,h1,h2,hl,and_self,if_true,List.take_length]
theorem dh.al(h:dh.k M)(s:aW)(hs:m7 s)(g:Int)(nm:List UInt8)(hn:nm.length≤1048576):
  run M 409 [.a (ai s),.c (I g),.c (S nm)] []=some (.lL [.a (ai (lN s g nm).1),.c (.bool (lN s g nm).2)],[]):=by
 obtain⟨h0,ko,kc,kn,kk,kst,ki,koe⟩:=h;have ht:=hs.time;have hbl:=hs.kU.b;have h2:=aQ.al ko s hs.kU;have h3:=dS.al kn s nm hs.kU.b;have h7:=fO.al kk s g hs.kU;have h4:=cr.al kc s hs.kU;have h5:=eh.al kst s hs.time;have er:(s.boxes.map af).length=s.boxes.length:=by simp
 have eg:=aI s.gone;have e5:IntKind.i64.wrap (s.time+1)=s.time+1:=wrap_i64 (by omega) (by omega);have c0:=lE (named s.boxes nm);refine ao (b:=dh.m) h0 ⟨(s.boxes.takeWhile fun b=>decide (b.gid<g)).length+1, ?_⟩;unfold lN;cases c1:bu s with
 |false=>
  rw[c1] at h2;simp only[ay,false_and,if_false];simp only[ai,aS,boxes,ints] at*;generalize s.boxes.map af=rb at*;generalize ax s.gone=rs at*;simp (maxSteps:=9^9) [a8,dh.m,dh.b,ab,setAt,h2,h4,er,eg]
 |true=>
  rw[c1] at h2;cases c2:pV s g with
  |true=>
   rw[c2] at h7;simp only[Bool.true_eq_false,false_and,and_false,if_false];simp only[ai,aS,boxes,ints] at*;generalize s.boxes.map af=rb at*;generalize ax s.gone=rs at*;simp (maxSteps:=9^9) [a8,dh.m,dh.b,ab,setAt,h2,h4,h7,er,eg]
  |false=>
   rw[c2] at h7;cases c3:(named s.boxes nm).isSome with
   |true=>
    rw[c3] at c0;simp only[decide_eq_true_eq] at c0;simp only[Bool.true_eq_false,and_false,if_false];generalize dN (named s.boxes nm)=z at*;simp only[ai,aS,boxes,ints] at*;generalize s.boxes.map af=rb at*;generalize ax s.gone=rs at*;simp (maxSteps:=9^9) [a8,dh.m,dh.b,ab,setAt,c0,h2,h3,h4,h7,er,eg]
   |false=>
    rw[c3] at c0;simp only[decide_eq_false_iff_not] at c0;rw[if_pos ⟨rfl,rfl,rfl⟩];have h6:=gu.al koe (iz s g nm) s (yG c1 g nm hn) hs.kU;obtain⟨f,r1⟩:=H6 (M:=M) ((s.boxes.takeWhile fun b=>decide (b.gid<g)).length+1) ⟨s,g,nm,2000000,2000016,2000080,2000066,2000067⟩ hbl;have hat:=E9 (fun b:bz=>decide (b.gid<g)) s.boxes;have h8:=Ix ki (s.boxes.map af) (af (mQ s g nm)) (s.boxes.takeWhile fun b=>decide (b.gid<g)).length (by rw[er];exact hat) (by rw[er];exact hbl);have em:(iz s g nm).boxes.map af=(s.boxes.map af).take (s.boxes.takeWhile fun b=>decide (b.gid<g)).length++[af (mQ s g nm)]++(s.boxes.map af).drop (s.boxes.takeWhile fun b=>decide (b.gid<g)).length:=by
     obtain⟨f1,f2⟩:=yq g s.boxes (jx.1 c1).JE (D_ c2);rw[←List.map_take,←List.map_drop,Ho,Hp,f1,f2];simp[iz]
    rw[←em,er] at h8;have el:((iz s g nm).boxes.map af).length=s.boxes.length+1:=by rw[em];simp;omega
    have ez:((0:Nat):Int)=0:=rfl;have ew:(iz s g nm).eD=s.eD:=rfl;have et:(iz s g nm).time=s.time+1:=rfl;have egn:(iz s g nm).gone=s.gone:=rfl;have en:af (mQ s g nm)=[I g,S nm,I (s.time+1),I s.eD,I 1,.sl false 4 [],.sl false 1 []]:=by simp[mQ,af,ax]
    have hres:(if bu (iz s g nm)=true then(iz s g nm,true) else(s,false))=((if bu (iz s g nm)=true then iz s g nm else s),bu (iz s g nm)):=by
     cases bu (iz s g nm)<;>rfl
    rw[hres];generalize hX:(if bu (iz s g nm)=true then iz s g nm else s)=X at*;generalize bu (iz s g nm)=wX at*;have hr0:=r1 2000352;clear em hX;simp only[LV,MJ,LW,ez] at hr0;simp only[ai,aS,boxes,ints,ew,et,egn,en] at h2 h3 h4 h5 h6 h7 h8 hr0 ⊢;generalize (iz s g nm).boxes.map af=rm at*;generalize X.boxes.map af=rx at*;generalize ax X.gone=gx at*;generalize dN (named s.boxes nm)=z at*;generalize s.boxes.map af=rb at*;generalize ax s.gone=rs at*;generalize (s.boxes.takeWhile fun b=>decide (b.gid<g)).length=at' at*;simp (maxSteps:=9^9) [a8,dh.m,dh.b,ab,setAt,c0,h2,h3,h4,h5,h6,h7,h8,hr0,e5,er,eg,el]
end Mx
namespace Mx
open Go
variable {M:Nat→Option Body}
def lj(l:List UInt8)(c:iX):bz×iX:=
 let g:=cvar l c
 let nm:=g_ l g.2
 let st:=mc l nm.2
 let nx:=cvar l st.2
 (⟨g.1,nm.1,st.1.1,st.1.2,nx.1,[],[]⟩,nx.2)
def ll(l:List UInt8)(c:iX):bz×iX:=
 let h:=lj l c
 let k:=jM l 10 h.2
 let ms:=lp (jC l) k.1.toNat k.2
 let go:=nX l 40 ms.2
 ({h.1 with ae:=ms.1,gone:=go.1},go.2)
def JD(b:bz)(i:Nat)(acc:List bp)(x:kO):List (Nat×Ob):=[(2,⟨x.a,7,true,true,[rR]⟩),(3,⟨x.b,7,true,true,[[I b.gid,S b.name,I b.time,I b.eD,I b.next,if i=0 then .aO 4 else .row 29 x.c 0 i,.aO 1]]⟩)]++if i=0 then [] else [(29,⟨x.c,4,true,false,acc.map ah⟩)]
def Cw(l:List UInt8)(b:bz)(n i:Nat)(acc:List bp)(c:iX)(x:kO):St:={t:=[(0,.c p6),(2,.c (.ptr 2 x.a 0 0)),(3,.c (.ptr 3 x.b 0 0)),(20,.c (I n)),(21,.c (I i))],o:=(0,mX 0 l c)::JD b i acc x,n:=x.d}
def Gp(l:List UInt8)(b:bz)(n:Nat)(acc:List bp)(c:iX)(x:kO):St:={t:=[(0,.c p6),(2,.c (.ptr 2 x.a 0 0)),(3,.c (.ptr 3 x.b 0 0)),(20,.c (I n)),(21,.c (I n)),(22,.c (.bool false))],o:=(0,mX 0 l c)::JD b n acc x,n:=x.d}
theorem dD.al(h:dD.k M)(l:List UInt8)(hl:l.length≤4611686018427387904)(c:iX):
  run M 143 [.c p6] [(0,mX 0 l c)]=some (.a (bM (ll l c).1),[(0,mX 0 l (ll l c).2)]):=by
 obtain⟨h0,k1,k2,k3,k4,k5,k6⟩:=h;have h1:=bS.al k1 l hl c;have h2:=eH.al k2 l hl (cvar l c).2;have h3:=fD.al k5 l hl (g_ l (cvar l c).2).2;have h4:=bS.al k1 l hl (mc l (g_ l (cvar l c).2).2).2;simp only[ll];have e0:lj l c=(⟨(cvar l c).1,(g_ l (cvar l c).2).1,(mc l (g_ l (cvar l c).2).2).1.1,(mc l (g_ l (cvar l c).2).2).1.2,(cvar l (mc l (g_ l (cvar l c).2).2).2).1,[],[]⟩,(cvar l (mc l (g_ l (cvar l c).2).2).2).2):=rfl;rw[e0];generalize cvar l c=q1 at*;generalize g_ l q1.2=q2 at*;generalize mc l q2.2=q3 at*;generalize cvar l q3.2=q4 at*;have h5:=dZ.al k3 l hl 10 q4.2;have hn:=p8 l 10 q4.2;simp only;generalize jM l 10 q4.2=q5 at*;obtain⟨n,c1⟩:=q5;simp only at hn ⊢;obtain⟨n,rfl⟩:=hH hn.1;simp only[eS];refine ao (b:=dD.m) h0 ⟨n+1, ?_⟩;obtain⟨g,hr⟩:=ry (f:=cy (run M) (n+1) dD.l0) n (jC l) (Cw l ⟨q1.1,q2.1,q3.1.1,q3.1.2,q4.1,[],[]⟩ n) 0 (Gp l ⟨q1.1,q2.1,q3.1.1,q3.1.2,q4.1,[],[]⟩ n)
  (fun i hi acc c x ha=>by
   obtain⟨v,w,z,x⟩:=x;have h2:=d_.al k6 l hl c;simp only[kO.ex];cases i with
   |zero=>
    have:acc=[]:=ba ha;subst this;simp (maxSteps:=9^9) [dD.l0,setAt,Cw,JD,hi,h2,wrap_one,iW,ah]
   |succ i=>
    have e5:IntKind.i64.wrap ((i:Int)+1+1)=(i:Int)+1+1:=wrap_i64 (by omega) (by omega);have e6:i+1+1≤4294967296:=by omega
    have e7:(i:Int)+1<n:=by omega
    simp (maxSteps:=9^9) [dD.l0,setAt,Cw,JD,e7,h2,e5,e6,ha,iW,ah,ab])
  (fun acc c x ha=>by
   obtain⟨v,w,z,x⟩:=x;simp only[kO.ex];by_cases hz:n=0
   ·subst hz;simp (maxSteps:=9^9) [dD.l0,Cw,Gp,JD]
   ·simp (maxSteps:=9^9) [dD.l0,Cw,Gp,JD,hz]) c1
 have hlen:=lH (jC l) n c1;have h6:=dC.al k4 l hl 40 (lp (jC l) n c1).2;generalize lp (jC l) n c1=q at*;generalize nX l 40 q.2=q6 at*
 replace hr:=fun a b d=>hr ⟨a,b,0,d⟩
 by_cases hz:n=0
 ·subst hz;have hq:q.1=[]:=ba hlen;simp[Cw,Gp,JD] at hr;simp (maxSteps:=9^9) [a8,dD.m,dD.b,aa,setAt,h1,h2,h3,h4,h5,h6,hr,hq,ab]
 ·simp[Cw,Gp,JD,hz] at hr;simp (maxSteps:=9^9) [a8,dD.m,dD.b,aa,setAt,h1,h2,h3,h4,h5,h6,hr,hlen,ab]
abbrev Bv(n:Int):T:= .int .u32 n
def half(x:Int):Int:=if x%2=1 then Aa .u32 (x/2) 3558460437 else x/2
def tP:Nat→Int→Int
 |0,x=>x
 |n+1,x=>tP n (half x)
def pq(x:Int)(b:UInt8):Int:=tP 8 (Aa .u32 x b.toNat)
def oL(x:Int)(l:List UInt8):Int:=l.foldl pq x
def sumOf(l:List UInt8):Int:=oL 4294967295 l
def pH(x:Int):Prop:=0≤x∧x<4294967296
theorem uh(x y:Int):pH (Aa .u32 x y):=by
 unfold Aa pH;rw[wrap_u32];omega
theorem zS{x:Int}(h:pH x):pH (half x):=by
 unfold half;split
 ·exact uh _ _
 ·unfold pH at*;omega
theorem tO:∀(n:Nat) {x:Int},pH x→pH (tP n x)
 |0,_,h=>h
 |n+1,_,h=>tO n (zS h)
theorem wo:∀(l:List UInt8) {x:Int},pH x→pH (oL x l)
 |[],_,h=>h
 |b::l,x,h=>by
  show pH (oL (pq x b) l);exact wo l (tO 8 (uh _ _))
theorem Fe(l:List UInt8):pH (sumOf l):=wo l ⟨by decide,by decide⟩
def Jt(l:List UInt8)(j:Nat)(s:Nat×Int)(x:Nat):St:={t:=[(0,.c (Bv s.2)),(1,.c (S l)),(5,.c (I j)),(6,.c (I s.1))],o:=[],n:=x}
theorem Lv{x:Int}(h:0≤x):x.tmod 2=x%2:=Int.tmod_eq_emod_of_nonneg h
theorem Lw{x:Int}(h:0≤x):x.tdiv 2=x/2:=Int.tdiv_eq_ediv_of_nonneg h
theorem cM.inner(cf:cR)(k:Nat)(l:List UInt8)(j:Nat)(x0:Int)(h0:pH x0):∀m,8<m→∃g:Nat→Nat,∀x,fi (cy cf k cM.l1) m (Jt l j (0,x0) x)=
  some (.exit 2,{t:=[(0,.c (Bv (tP 8 x0))),(1,.c (S l)),(5,.c (I j)),(6,.c (I 8)),(21,.c (.bool false))],o:=[],n:=g x}):=by
 intro m hm;exact jP (f:=cy cf k cM.l1) (Jt l j) (fun s=>s.1≤8∧pH s.2) (fun s=>8-s.1) (fun s=>tP (8-s.1) s.2)
  (fun q m=>(.exit 2,{t:=[(0,.c (Bv q)),(1,.c (S l)),(5,.c (I j)),(6,.c (I 8)),(21,.c (.bool false))],o:=[],n:=m}))
  (by
   rintro ⟨i,y⟩ x ⟨h1,h2⟩;simp only at h1 h2;by_cases hlt:i<8
   ·have e5:=cz (i:=i) (by omega);have e0:(i:Int)<8:=by omega
    have e1:=Lv h2.1;have e2:=Lw h2.1;have e3:IntKind.u32.wrap (y/2)=y/2:=by rw[wrap_u32];have:=h2.2;have:=h2.1;omega
    have hd:8-i=(8-(i+1))+1:=by omega
    left;obtain⟨z,hz⟩:∃z,cy cf k cM.l1 (Jt l j (i,y) x)=some (.normal,Jt l j (i+1,half y) z):=by
     by_cases c:y%2=1
     ·simp[Jt,cM.l1,e0,e5,e1,e2,e3,c,half]
     ·simp[Jt,cM.l1,e0,e5,e1,e2,e3,c,half]
    exact⟨(i+1,half y),z,hz,⟨hlt,zS h2⟩,by simp only;omega,by simp only[hd];rfl⟩
   ·have:i=8:=by omega
    subst this;exact .inr ⟨x+32,by simp[Jt,cM.l1,tP],by simp⟩)
  m (0,x0) ⟨by simp,h0⟩ (by simp;omega)
theorem NC{x:Int}(h:pH x):ud .u32 x 1=x%2:=by
 obtain⟨n,rfl⟩:=hH h.1;have h2:n<4294967296:=by have:=h.2;omega
 rw[wh,wrap_u32];have e1:((n:Int)%((2^IntKind.u32.bits:Nat):Int)).toNat=n:=by
  show ((n:Int)%4294967296).toNat=n;omega
 have e2:((1:Int)%((2^IntKind.u32.bits:Nat):Int)).toNat=1:=by decide
 rw[e1,e2,Nat.and_one_is_mod];omega
def Jz(l:List UInt8)(j:Nat)(s:Nat×Int)(x:Nat):St:={t:=[(0,.c (Bv s.2)),(1,.c (S l)),(5,.c (I j)),(19,.c (I s.1))],o:=[],n:=x}
theorem cN.inner(cf:cR)(k:Nat)(l:List UInt8)(j:Nat)(x0:Int)(h0:pH x0):∀m,8<m→∃g:Nat→Nat,∀x,fi (cy cf k cN.l1) m (Jz l j (0,x0) x)=
  some (.exit 2,{t:=[(0,.c (Bv (tP 8 x0))),(1,.c (S l)),(5,.c (I j)),(19,.c (I 8)),(20,.c (.bool false))],o:=[],n:=g x}):=by
 intro m hm;exact jP (f:=cy cf k cN.l1) (Jz l j) (fun s=>s.1≤8∧pH s.2) (fun s=>8-s.1) (fun s=>tP (8-s.1) s.2)
  (fun q m=>(.exit 2,{t:=[(0,.c (Bv q)),(1,.c (S l)),(5,.c (I j)),(19,.c (I 8)),(20,.c (.bool false))],o:=[],n:=m}))
  (by
   rintro ⟨i,y⟩ x ⟨h1,h2⟩;simp only at h1 h2;by_cases hlt:i<8
   ·have e5:=cz (i:=i) (by omega);have e0:(i:Int)<8:=by omega
    have e1:=NC h2;have e2:y.fdiv 2=y/2:=Int.fdiv_eq_ediv_of_nonneg _ (by omega);have hd:8-i=(8-(i+1))+1:=by omega
    left;obtain⟨z,hz⟩:∃z,cy cf k cN.l1 (Jz l j (i,y) x)=some (.normal,Jz l j (i+1,half y) z):=by
     by_cases c:y%2=1
     ·simp[Jz,cN.l1,e0,e5,e1,e2,c,half,IntKind.bits]
     ·simp[Jz,cN.l1,e0,e5,e1,e2,c,half,IntKind.bits]
    exact⟨(i+1,half y),z,hz,⟨hlt,zS h2⟩,by simp only;omega,by simp only[hd];rfl⟩
   ·have:i=8:=by omega
    subst this;exact .inr ⟨x+16,by simp[Jz,cN.l1,tP],by simp⟩)
  m (0,x0) ⟨by simp,h0⟩ (by simp;omega)
theorem E8(b:UInt8):IntKind.u32.wrap (b.toNat:Int)=b.toNat:=by
 rw[wrap_u32];have:=b.toNat_lt;omega
def qW(l:List UInt8)(s:Nat×Int)(x:Nat):St:={t:=[(0,.c (Bv s.2)),(1,.c (S l)),(5,.c (I s.1))],o:=[],n:=x}
theorem cM.al(h:cM.k M)(l:List UInt8)(hl:l.length≤4611686018427387904)(x0:Int)(h0:pH x0):run M 248 [.c (Bv x0),.c (S l)] []=some (.c (Bv (oL x0 l)),[]):=by
 refine ao (b:=cM.m) h ⟨l.length+9, ?_⟩;obtain⟨g,hr⟩:=jP (f:=cy (run M) (l.length+9) cM.l0) (qW l) (fun s=>s.1≤l.length∧pH s.2) (fun s=>l.length-s.1) (fun s=>oL s.2 (l.drop s.1))
  (fun q m=>(.exit 0,{t:=[(0,.c (Bv q)),(1,.c (S l)),(5,.c (I l.length)),(11,.c (.bool false))],o:=[],n:=m}))
  (by
   rintro ⟨i,y⟩ x ⟨h1,h2⟩;simp only at h1 h2;by_cases hlt:i<l.length
   ·have e5:=cz (i:=i) (by omega);have e6:=E8 l[i];obtain⟨g1,hg⟩:=cM.inner (run M) (l.length+9) l i (Aa .u32 y l[i].toNat) (uh _ _) (l.length+9) (by omega);simp[Jt] at hg;left;obtain⟨z,hz⟩:∃z,cy (run M) (l.length+9) cM.l0 (qW l (i,y) x)=some (.normal,qW l (i+1,pq y l[i]) z):=by
     simp[qW,cM.l0,hlt,jS,e5,e6,hg,pq]
    refine⟨(i+1,pq y l[i]),z,hz,⟨hlt,tO 8 (uh _ _)⟩,by simp only;omega, ?_⟩;simp only[bC hlt];rfl
   ·have:i=l.length:=by omega
    subst this;exact .inr ⟨x+64,by simp[qW,cM.l0,oL],by simp⟩)
  (l.length+9) (0,x0) ⟨Nat.zero_le _,h0⟩ (by simp)
 simp[qW] at hr;simp[a8,cM.m,cM.b,aa,hr]
theorem cN.al(h:cN.k M)(l:List UInt8)(hl:l.length≤4611686018427387904)(x0:Int)(h0:pH x0):run M 249 [.c (Bv x0),.c (S l)] []=some (.c (Bv (oL x0 l)),[]):=by
 refine ao (b:=cN.m) h ⟨l.length+9, ?_⟩;obtain⟨g,hr⟩:=jP (f:=cy (run M) (l.length+9) cN.l0) (qW l) (fun s=>s.1≤l.length∧pH s.2) (fun s=>l.length-s.1) (fun s=>oL s.2 (l.drop s.1))
  (fun q m=>(.exit 0,{t:=[(0,.c (Bv q)),(1,.c (S l)),(5,.c (I l.length)),(10,.c (.bool false))],o:=[],n:=m}))
  (by
   rintro ⟨i,y⟩ x ⟨h1,h2⟩;simp only at h1 h2;by_cases hlt:i<l.length
   ·have e5:=cz (i:=i) (by omega);have e6:=E8 l[i];obtain⟨g1,hg⟩:=cN.inner (run M) (l.length+9) l i (Aa .u32 y l[i].toNat) (uh _ _) (l.length+9) (by omega);simp[Jz] at hg;left;obtain⟨z,hz⟩:∃z,cy (run M) (l.length+9) cN.l0 (qW l (i,y) x)=some (.normal,qW l (i+1,pq y l[i]) z):=by
     simp[qW,cN.l0,hlt,jS,e5,e6,hg,pq]
    refine⟨(i+1,pq y l[i]),z,hz,⟨hlt,tO 8 (uh _ _)⟩,by simp only;omega, ?_⟩;simp only[bC hlt];rfl
   ·have:i=l.length:=by omega
    subst this;exact .inr ⟨x+64,by simp[qW,cN.l0,oL],by simp⟩)
  (l.length+9) (0,x0) ⟨Nat.zero_le _,h0⟩ (by simp)
 simp[qW] at hr;simp[a8,cN.m,cN.b,aa,hr]
theorem ju.al(h:ju.k M)(l:List UInt8)(hl:l.length≤4611686018427387904):run M 201 [.c (S l)] []=some (.c (Bv (sumOf l)),[]):=by
 have h1:=cM.al h.2 l hl 4294967295 ⟨by decide,by decide⟩;refine ao (b:=ju.m) h.1 ⟨0, ?_⟩;simp[a8,ju.m,ju.b,aa,h1,sumOf]
theorem jR.al(h:jR.k M)(l:List UInt8)(hl:l.length≤4611686018427387904):run M 203 [.c (S l)] []=some (.c (Bv (sumOf l)),[]):=by
 have h1:=cN.al h.2 l hl 4294967295 ⟨by decide,by decide⟩;refine ao (b:=jR.m) h.1 ⟨0, ?_⟩;simp[a8,jR.m,jR.b,aa,h1,sumOf]
def byteOf(x:Int):UInt8:=UInt8.ofNat (x%256).toNat
def four(x:Int):List UInt8:=[byteOf (x/16777216),byteOf (x/65536),byteOf (x/256),byteOf x]
theorem xq(x:Int):(four x).length=4:=rfl
theorem ie.al(h:ie.k M)(x:Int):run M 202 [.c (Bv x)] []=some (.c (S (four x)),[]):=by
 refine ao (b:=ie.m) h ⟨0, ?_⟩;have e1:x.fdiv 16777216=x/16777216:=Int.fdiv_eq_ediv_of_nonneg _ (by omega);have e2:x.fdiv 65536=x/65536:=Int.fdiv_eq_ediv_of_nonneg _ (by omega);have e3:x.fdiv 256=x/256:=Int.fdiv_eq_ediv_of_nonneg _ (by omega);simp[a8,ie.m,ie.b,aa,IntKind.bits,e1,e2,e3,lW,four,byteOf,wrap_u8]
def oh(l:List UInt8):List UInt8×Bool:=if 20000<l.length then([],false) else(l++four (sumOf l),true)
theorem iQ.al(h:iQ.k M)(l:List UInt8)(hl:l.length≤4611686018427387904):run M 100 [.c (S l)] []=some (.lL [.c (S (oh l).1),.c (.bool (oh l).2)],[]):=by
 have h1:=ju.al h.2.1 l hl;have h2:=ie.al h.2.2 (sumOf l);refine ao (b:=iQ.m) h.1 ⟨0, ?_⟩;by_cases c:20000<l.length
 ·have c':20000<(l.length:Int):=by omega
  simp[a8,iQ.m,iQ.b,aa,oh,c,c']
 ·have c':¬20000<(l.length:Int):=by omega
  have e:=xq (sumOf l);simp (disch:=(first|omega|(simp;done)|(simp;omega))) [a8,iQ.m,iQ.b,aa,oh,c,c',h1,h2,fT]
end Mx
