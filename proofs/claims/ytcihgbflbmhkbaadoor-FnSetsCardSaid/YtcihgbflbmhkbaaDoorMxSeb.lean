/-
  What more of the functions compute, each by a small evaluation; no condition beyond what each says.
-/
import Derived.Orders
import Derived.LoopN
import Derived.Lib.IndexMore
import Derived.Lib.Split
import Derived.Below
import Derived.Carry
import Derived.Deep.Slices
import Derived.ChangeArms
import Derived.WalkKit
import Derived.ProofKit
import Derived.OpenShut
import Derived.ShutString
import Derived.ChangeOld
import Derived.SizedLaws
import Derived.Sort.Row
import Derived.Sort.Grow
import Derived.Lib.SlicesCompact
import Derived.Lib.Bytealg
import Derived.Test.YtcihgbflbmhkbaaDoorMxSe
set_option maxHeartbeats 16000000
set_option linter.unusedSimpArgs false
set_option linter.unusedVariables false
namespace Mx
open Go
variable {P:Program} {F:Nat→FuncId} {Pr:Nat→Prop} {w0:World} {lb:Lb} {N:Nat} {E:Nat→Option Loc} {n:Nat} {t:List (Nat×V)} {o:List (Nat×Ob)} {a:Act} {w:World}
def gw(X Y:Cx):Prop:=∀t v,a7 t→bN X t v→bN Y t v
structure Home (X Y:Cx) (own:Nat→Option Loc) (lent:List (Nat×Ob)) (n:Nat) (lmap:List (Nat×Nat×Nat)) (thaw:List (Nat×Nat)):Prop where
 heap:Y.w=X.w
 ou:∀q id,get thaw q=some id→Y.E (n+q)=own q
 free:∀q b cap sz,get thaw q=none→own q=some (.cK b cap sz)→¬Y.U b
 mu:∀p id aw,get lmap p=some (id,aw)→∃ob,get lent p=some ob∧∀l,X.E p=some l→Y.E aw=some l
def jm(X:Cx)(own:Nat→Option Loc)(n:Nat)(thaw:List (Nat×Nat))(fl:Bool)(u:Nat×Ob):Prop:=
 ∃q l,get thaw q=some u.1∧own q=some l∧u.2.aw=n+q∧u.2.w=true∧(∀(i j:Nat) (r:List T) (t:T),u.2.rows[i]? =some r→r[j]? =some t→a7 t)∧dy X u.2 l∧(fl=true→u.2.rows.all (fun r=>r.all T.scalar)=true)
theorem dy.aw{X:Cx}{ob ob':Ob}{l:Loc}(h:dy X ob l)(h1:ob'.rows=ob.rows)(h2:ob'.sz=ob.sz)(h3:ob'.bx=ob.bx):dy X ob' l:=by
 cases l with
 |nil=>exact⟨by rw[h1];exact h.1,by rw[h3];exact h.2⟩
 |cK b cap sz=>exact⟨by rw[h2];exact h.1,h.2.move rfl h1 h2 (by rw[h1,h3];exact h.2.cl) fun i j r t v _ _ hv=>hv⟩
theorem fT{rows:List (List T)}(h:rows.all (fun r=>r.all T.scalar)=true){i j:Nat}{r:List T}{t:T}(hi:rows[i]? =some r)(hj:r[j]? =some t):t.scalar=true:=by
 simp only[au] at h;exact h r (ch hi) t (ch hj)
theorem pJ{X Y:Cx}{sz:Nat}{rows:List (List T)}{l:Loc}(hr:dy X {aw:=0,sz:=sz,w:=true,bx:=false,rows:=rows} l)(hw:Y.w=X.w)(hu:∀b cap sz,l= .cK b cap sz→¬Y.U b)
  (hm:gw X Y∨rows.all (fun r=>r.all T.scalar)=true):bN Y (.sl false sz rows) (og l rows.length):=by
 cases l with
 |nil=>
  obtain⟨h,_⟩:=hr;simp only at h;subst h;exact bN.empty (X:=Y) false sz none 0
 |cK b cap sz'=>
  obtain⟨e,hl,hwid,hcl,cs,e1,fr,m1,m2,m3,m4⟩:=hr;simp only at e hl hwid hcl m2 m4;subst e;refine .sl false sz' rows (some (bI b)) cap (fun i j=>cs.getD (i*sz'+j) undef) hl hwid ?_ ?_ (hcl trivial)
  ·intro i j r t hi ht;obtain⟨v,hv,_⟩:=m4 i j r t hi ht;refine⟨_,rfl,hu b cap sz' rfl, ?_⟩;rw[dr,hw];simp only[World.cell?,m1,Option.isSome_none,av,if_false,aI,hv];rfl
  ·intro i j r t hi ht;obtain⟨v,hv,hrep⟩:=m4 i j r t hi ht;simp only[aI,hv,cw];rcases hm with hm|hm
   ·exact hm _ _ (hcl trivial i j r t hi ht) hrep
   ·exact hrep.scalar (fT hm hi ht)
theorem k9{X Y:Cx}{own:Nat→Option Loc}{lent:List (Nat×Ob)}{lmap:List (Nat×Nat×Nat)}{thaw:List (Nat×Nat)}{q:Nat}{x y:T}{bf:List (Nat×Ob)}{v:Value}{fl:Bool}
  (H:Home X Y own lent n lmap thaw) (hm:gw X Y∨fl=true) (hf:fl=true→eA x=true) (h:eD n lmap thaw q x=some (y,bf)) (hr:fU X own lent q x v):
  bN Y y v∧∀u∈bf,jm X own n thaw fl u:=by
 cases hr with
 |int k m=>simp[eD] at h;obtain⟨rfl,rfl⟩:=h;exact⟨.int _ _,fun u hu=>by simp at hu⟩
 |bool b=>simp[eD] at h;obtain⟨rfl,rfl⟩:=h;exact⟨.bool _,fun u hu=>by simp at hu⟩
 |str s=>simp[eD] at h;obtain⟨rfl,rfl⟩:=h;exact⟨.str _,fun u hu=>by simp at hu⟩
 |own sz rows l ho hl=>
  simp only[eD] at h;split at h
  ·rename_i id hid;simp only[if_true,af,ah] at h;obtain⟨rfl,rfl⟩:=h;have hE:=H.ou q id hid;rw[ho] at hE;refine⟨?_,fun u hu=> ?_⟩
   ·cases l with
    |nil=>
     have:=hl.1;simp only at this;subst this;exact .dE id (n+q) hE
    |cK b cap sz'=>
     have hlen:rows.length≤cap:=hl.2.len;have:=dc (X:=Y) (id:=id) (aw:=n+q) hE hlen;exact this
   ·simp only[lq] at hu;subst hu;exact⟨q,l,hid,ho,rfl,rfl,(match l,hl with| .nil,hl=>fun i j r t hi _=>(by have:=hl.1;simp only at this;subst this;simp at hi)| .cK _ _ _,hl=>hl.2.cl rfl),hl.aw rfl rfl rfl,fun hfl=>by have:=hf hfl;simpa [eA] using this⟩
  ·rename_i hid;simp only[af,ah] at h;obtain⟨rfl,rfl⟩:=h;exact⟨pJ hl H.heap (fun b cap sz e=>H.free q b cap sz hid (by rw[ho,e])) (hm.imp id fun k=>by have:=hf k;simpa [eA] using this),fun u hu=>by simp at hu⟩
 |box cells b cap ho hl hc=>
  simp only[eD] at h;split at h
  ·rename_i id hid;simp only[af,ah] at h;obtain⟨rfl,rfl⟩:=h;have hE:=H.ou q id hid;rw[ho] at hE;refine⟨?_,fun u hu=> ?_⟩
   ·have:=bN.ptr (X:=Y) id (n+q) 0 0 b cap cells.length hE;simpa [add_zero] using this
   ·simp only[lq] at hu;subst hu;refine⟨q,_,hid,ho,rfl,rfl,fun i j r t hi ht=> ?_,hl.aw rfl rfl rfl,fun hfl=>by have:=hf hfl;simp[eA] at this⟩;cases i with
    |zero=>simp at hi;subst hi;exact hc j t ht
    |succ i=>simp at hi
  ·cases h
 |sh sz rows _ hs=>
  simp only[eD] at h;split at h
  ·simp at h
  ·simp only[af,ah] at h;obtain⟨rfl,rfl⟩:=h;refine⟨?_,fun u hu=>by simp at hu⟩;rcases hm with hm|hm
   ·refine hm _ _ ?_ hs;cases hs with|sl _ _ _ A c vs h1 h2 h3 h4 h5=>exact .sl _ _ _ h5
   ·have:=hf hm;simp[eA] at this
 |row p aw off len _ hs=>
  simp only[eD] at h;split at h
  ·rename_i id ver' hp;simp only[af,ah] at h;obtain⟨rfl,rfl⟩:=h;obtain⟨ob,h1,h2⟩:=H.mu p id ver' hp;refine⟨?_,fun u hu=>by simp at hu⟩;have:=hs ob h1;cases this with
   |row _ _ _ _ cap sz b hE hl ho=>exact .row _ _ off len cap sz b (h2 _ hE) hl ho
   |dE _ _ hE=>exact .dE _ _ (h2 _ hE)
  ·cases h
theorem k_{X Y:Cx}{own:Nat→Option Loc}{lent:List (Nat×Ob)}{lmap:List (Nat×Nat×Nat)}{thaw:List (Nat×Nat)}{fl:Bool}
  (H:Home X Y own lent n lmap thaw) (hm:gw X Y∨fl=true):∀{q:Nat} {xs ys:List T} {bf:List (Nat×Ob)} {vs:List Value},(fl=true→xs.all eA=true)→gu n lmap thaw q xs=some (ys,bf)→nL X own lent q xs vs→
  bw Y ys vs∧∀u∈bf,jm X own n thaw fl u
 |q,[],ys,bf,vs,hf,h,hr=>by
  simp[gu] at h;obtain⟨rfl,rfl⟩:=h;cases vs with
  |nil=>exact⟨.nil Y,fun u hu=>by simp at hu⟩
  |cons=>simp[nL] at hr
 |q,x::xs,ys,bf,vs,hf,h,hr=>by
  cases vs with
  |nil=>simp[nL] at hr
  |cons v vs=>
   simp only[gu] at h;split at h
   ·rename_i y u1 h1;split at h
    ·rename_i ys' u2 h2;simp only[af,ah] at h;obtain⟨rfl,rfl⟩:=h;obtain⟨r1,r2⟩:=hr;have hf':=fun k=>by have:=hf k;simpa [List.all_cons,ae] using this
     obtain⟨a1,a2⟩:=k9 H hm (fun k=>(hf' k).1) h1 r1;obtain⟨b1,b2⟩:=k_ H hm (fun k=>by simpa using(hf' k).2) h2 r2;refine⟨.cons a1 b1,fun u hu=> ?_⟩;rcases List.mem_append.1 hu with q|q
     ·exact a2 u q
     ·exact b2 u q
    ·cases h
   ·cases h
def V.qS:V→Bool
 | .c t=>eA t
 | .a ts=>ts.all eA
 |_=>false
theorem jl{X Y:Cx}{own:Nat→Option Loc}{lent:List (Nat×Ob)}{lmap:List (Nat×Nat×Nat)}{thaw:List (Nat×Nat)}{fl:Bool}{q q':Nat}{x y:V}{bf:List (Nat×Ob)}{v:Value}
  (H:Home X Y own lent n lmap thaw) (hm:gw X Y∨fl=true) (hf:fl=true→x.qS=true) (h:fo n lmap thaw q x=some (y,bf,q')) (hr:ku X own lent q x v):
  bW Y y v∧q'=q+x.width∧∀u∈bf,jm X own n thaw fl u:=by
 cases x with
 |c x=>
  simp only[fo] at h;split at h
  ·rename_i t' u1 h1;simp only[af,ah] at h;obtain⟨rfl,rfl,rfl⟩:=h;obtain⟨a1,a2⟩:=k9 H hm hf h1 hr;exact⟨.c _ _ a1,rfl,a2⟩
  ·cases h
 |a xs=>
  simp only[fo] at h;split at h
  ·rename_i ys u1 h1;simp only[af,ah] at h;obtain⟨rfl,rfl,rfl⟩:=h;cases v with
   |agg cs=>
    obtain⟨a1,a2⟩:=k_ H hm hf h1 hr;have:=bW.rH a1;exact⟨by simpa using this,rfl,a2⟩
   |_=>simp[ku] at hr
  ·cases h
 |fW=>simp[fo] at h
 |undef=>simp[fo] at h
theorem jN{X Y:Cx}{own:Nat→Option Loc}{lent:List (Nat×Ob)}{lmap:List (Nat×Nat×Nat)}{thaw:List (Nat×Nat)}{fl:Bool}
  (H:Home X Y own lent n lmap thaw) (hm:gw X Y∨fl=true):∀{q:Nat} {xs ys:List V} {bf:List (Nat×Ob)} {vs:List Value},(fl=true→xs.all V.qS=true)→eU n lmap thaw q xs=some (ys,bf)→jS X own lent q xs vs→
  ys.length=vs.length∧(∀(i:Nat) (y:V) (v:Value),ys[i]? =some y→vs[i]? =some v→bW Y y v)∧∀u∈bf,jm X own n thaw fl u
 |q,[],ys,bf,vs,hf,h,hr=>by
  simp[eU] at h;obtain⟨rfl,rfl⟩:=h;cases vs with
  |nil=>exact⟨rfl,fun i y v h=>by simp at h,fun u hu=>by simp at hu⟩
  |cons=>simp[jS] at hr
 |q,x::xs,ys,bf,vs,hf,h,hr=>by
  cases vs with
  |nil=>simp[jS] at hr
  |cons v vs=>
   simp only[eU] at h;split at h
   ·rename_i y u1 q1 h1;split at h
    ·rename_i ys' u2 h2;simp only[af,ah] at h;obtain⟨rfl,rfl⟩:=h;obtain⟨r1,r2⟩:=hr;have hf':=fun k=>by have:=hf k;simpa [List.all_cons,ae] using this
     obtain⟨a1,rfl,a2⟩:=jl H hm (fun k=>(hf' k).1) h1 r1;obtain⟨b0,b1,b2⟩:=jN H hm (fun k=>by simpa using(hf' k).2) h2 r2;refine⟨by simp[b0], ?_,fun u hu=> ?_⟩
     ·intro i y v hy hv;cases i with
      |zero=>simp at hy hv;subst hy hv;exact a1
      |succ i=>exact b1 i y v (by simpa using hy) (by simpa using hv)
     ·rcases List.mem_append.1 hu with q|q
      ·exact a2 u q
      ·exact b2 u q
    ·cases h
   ·cases h
theorem mF{X Y:Cx}{own:Nat→Option Loc}{lent:List (Nat×Ob)}{lmap:List (Nat×Nat×Nat)}{thaw:List (Nat×Nat)}{x y:V}{bf:List (Nat×Ob)}{v:Value}{fl:Bool}
  (H:Home X Y own lent n lmap thaw) (hm:gw X Y∨fl=true) (hf:fl=true→x.flat=true) (h:back n lmap thaw x=some (y,bf)) (hr:qL X own lent x v):
  bW Y y v∧∀u∈bf,jm X own n thaw fl u:=by
 cases x with
 |fW vs=>
  simp only[back,ab,ah] at h;obtain⟨r,h1,rfl,rfl⟩:=h;cases v with
  |tuple xs=>
   obtain⟨b0,b1,b2⟩:=jN H hm (fun k=>hf k) h1 hr;exact⟨.fW _ _ (by simpa using b0) fun i v x h1 h2=>b1 i v x h1 (by simpa using h2),b2⟩
  |_=>simp[qL,ku] at hr
 |c t=>
  simp only[back,ab,ah] at h;obtain⟨r,h1,rfl,rfl⟩:=h;obtain⟨a1,_,a2⟩:=jl H hm (x:= .c t) hf (q':=r.2.2) h1 hr;exact⟨a1,a2⟩
 |a ts=>
  simp only[back,ab,ah] at h;obtain⟨r,h1,rfl,rfl⟩:=h;obtain⟨a1,_,a2⟩:=jl H hm (x:= .a ts) hf (q':=r.2.2) h1 hr;exact⟨a1,a2⟩
 |undef=>simp[back,fo] at h
theorem gT{nn:Nat}{o after:List (Nat×Ob)}:∀{ls:List (Nat×Nat×Ob)} {bf:List (Nat×Ob)},cE nn o after ls=some bf→
  (∀u∈bf,∃l∈ls,∃b,l.2.1=u.1∧get o u.1=some b∧u.2=eV nn b (get after l.1))∧∀l∈ls,∃ob,get bf l.2.1=some ob
 |[],bf,h=>by simp[cE] at h;subst h;exact⟨fun u hu=>by simp at hu,fun l hl=>by simp at hl⟩
 |(p,id,ob)::ls,bf,h=>by
  simp only[cE] at h;split at h
  ·rename_i b l h2 h3;cases h;obtain⟨i1,i2⟩:=gT h3;refine⟨fun u hu=> ?_,fun l' hl=> ?_⟩
   ·rcases List.mem_cons.1 hu with rfl|hu
    ·exact⟨_,a8 ..,b,rfl,h2,rfl⟩
    ·obtain⟨l',k1,k2⟩:=i1 u hu;exact⟨l',aV _ k1,k2⟩
   ·simp only[get];split
    ·exact⟨_,rfl⟩
    ·rename_i hne;rcases List.mem_cons.1 hl with rfl|hl
     ·exact(hne rfl).elim
     ·exact i2 l' hl
  ·cases h
end Mx
namespace Mx
open Go
variable {P:Program} {F:Nat→FuncId} {Pr:Nat→Prop} {w0:World} {lb:Lb} {N:Nat} {E:Nat→Option Loc} {n:Nat→Prop} {t:List (Nat×V)} {o:List (Nat×Ob)} {a:Act} {w:World}
theorem gi{p id:Nat}{v v':V}{ob:Ob}(h:cW o p v=some (v',id,ob)):fV o (p,id,ob):=by
 unfold cW at h;split at h
 ·split at h
  ·rename_i b hg;split at h
   ·rename_i hc;simp only[ab,ah] at h;obtain⟨rows,hm,rfl,rfl,rfl⟩:=h;exact⟨b,hg,hc.2.1,rfl,rfl,hc.2.1,rfl,.inr hm⟩
   ·cases h
  ·cases h
 ·split at h
  ·rename_i b hg;split at h
   ·rename_i hc;simp only[af,ah] at h;obtain⟨rfl,rfl,rfl⟩:=h;exact⟨b,hg,hc.2.1,rfl,rfl,hc.2.1,rfl,.inl ⟨rfl,hc.2.2.1⟩⟩
   ·cases h
  ·cases h
 ·cases h
theorem iY{lend:List Nat}:∀{ts:List T} {k:Nat} {ts':List T} {ls:List (Nat×Nat×Ob)} {b:List Nat},eo o lend k ts=some (ts',ls,b)→
  (∀l∈ls,k≤l.1∧l.1<k+ts.length∧fV o l)∧(ls.map (·.1)).Nodup
 |[],k,ts',ls,b,h=>by
  simp[eo] at h;obtain⟨rfl,rfl,rfl⟩:=h;exact⟨fun l hl=>by simp at hl,by simp⟩
 |t::ts,k,ts',ls,b,h=>by
  simp only[eo] at h;split at h
  ·cases h
  ·rename_i ts1 ls1 b1 hrest;obtain⟨i3,i4⟩:=iY hrest;split at h
   ·split at h
    ·rename_i t' id ob hlo;simp only[af,ah] at h;obtain⟨rfl,rfl,rfl⟩:=h;have k1:=gi hlo;refine⟨?_, ?_⟩
     ·intro l hl;rcases List.mem_cons.1 hl with rfl|hl
      ·exact⟨Nat.le_refl _,by simp,k1⟩
      ·obtain⟨q1,q2,q3⟩:=i3 l hl;exact⟨by omega,by simp;omega,q3⟩
     ·simp only[aY,List.nodup_cons];refine⟨?_,i4⟩;intro hm;obtain⟨l,hl,e⟩:=List.mem_map.1 hm;have:=(i3 l hl).1;omega
    ·cases h
   ·split at h
    ·simp only[af,ah] at h;obtain⟨rfl,rfl,rfl⟩:=h;refine⟨?_,i4⟩;intro l hl;obtain⟨q1,q2,q3⟩:=i3 l hl;exact⟨by omega,by simp;omega,q3⟩
    ·cases h
def hP(p q k:Nat):Prop:=(p≤k∧k<q)∨(1000000+64*p≤k∧k<1000000+64*q)
theorem jR{lend:List Nat}:∀{vals:List V} {p:Nat} {as:List V} {ls:List (Nat×Nat×Ob)} {b:List Nat},args o lend p vals=some (as,ls,b)→p+vals.length≤1000→
  as.length=vals.length∧(∀l∈ls,hP p (p+vals.length) l.1∧fV o l)∧(ls.map (·.1)).Nodup
 |[],p,as,ls,b,h,_=>by
  simp[args] at h;obtain⟨rfl,rfl,rfl⟩:=h;exact⟨rfl,fun l hl=>by simp at hl,by simp⟩
 |v::vals,p,as,ls,b,h,hp=>by
  simp only[ak] at hp;simp only[args] at h;split at h
  ·cases h
  ·rename_i as' ls' b' hrest;obtain⟨i1,i3,i4⟩:=jR hrest (by omega);have up:∀k,hP (p+1) (p+1+vals.length) k→hP p (p+(v::vals).length) k:=by
    intro k hk;simp only[hP,ak] at hk ⊢;omega
   split at h
   ·split at h
    ·rename_i v' id ob hlo;simp only[af,ah] at h;obtain⟨rfl,rfl,rfl⟩:=h;have k1:=gi hlo;refine⟨by simp[i1], ?_, ?_⟩
     ·intro l hl;rcases List.mem_cons.1 hl with rfl|hl
      ·exact⟨.inl ⟨Nat.le_refl _,by simp⟩,k1⟩
      ·obtain⟨q1,q3⟩:=i3 l hl;exact⟨up _ q1,q3⟩
     ·simp only[aY,List.nodup_cons];refine⟨?_,i4⟩;intro hm;obtain⟨l,hl,e⟩:=List.mem_map.1 hm;have:=(i3 l hl).1;simp only[hP] at this;omega
    ·cases h
   ·split at h
    ·split at h
     ·rename_i ts;split at h
      ·rename_i h64;split at h
       ·rename_i ts' ls1 b1 hcells;simp only[af,ah] at h;obtain⟨rfl,rfl,rfl⟩:=h;obtain⟨j3,j4⟩:=iY hcells;refine⟨by simp[i1], ?_, ?_⟩
        ·intro l hl;rcases List.mem_append.1 hl with hl|hl
         ·obtain⟨q1,q2,q3⟩:=j3 l hl;exact⟨.inr ⟨q1,by simp only[ak];omega⟩,q3⟩
         ·obtain⟨q1,q3⟩:=i3 l hl;exact⟨up _ q1,q3⟩
        ·rw[dD,List.nodup_append];refine⟨j4,i4, ?_⟩;intro x hx y hy e;obtain⟨l,hl,e1⟩:=List.mem_map.1 hx;obtain⟨l',hl',e2⟩:=List.mem_map.1 hy;have q1:=(j3 l hl).1;have q2:=(j3 l hl).2.1;have q3:=(i3 l' hl').1;simp only[hP] at q3;omega
       ·cases h
      ·cases h
     ·cases h
    ·split at h
     ·rename_i v' hv';simp only[af,ah] at h;obtain⟨rfl,rfl,rfl⟩:=h;refine⟨by simp[i1], ?_,i4⟩;intro l hl;obtain⟨q1,q3⟩:=i3 l hl;exact⟨up _ q1,q3⟩
     ·cases h
theorem kN{X Y:Cx}(hF:Y.F=X.F)(hc:∀ad v,¬X.U ad.block→X.w.cell? ad=some v→Y.w.cell? ad=some v∧¬Y.U ad.block):gw X Y:=fun _ _ k h=>h.qT hF hc k
def cB(ls:List (Nat×Nat×Ob)):List (Nat×Ob):=ls.map fun l=>(l.1,l.2.2)
def e_(E:Nat→Option Loc)(o:List (Nat×Ob))(ls:List (Nat×Nat×Ob))(v:Nat):Option Loc:=
 match get (ls.map fun l=>(l.1,l.2.1)) v with
 |some id=>(match get o id with|some b=>E b.aw|none=>none)
 |none=>none
def LB(E:Nat→Option Loc)(o:List (Nat×Ob))(ls:List (Nat×Nat×Ob))(bk:Nat):Prop:=∃l∈ls,lp E o l.2.1 bk
theorem fO{α:Type}{ls:List (Nat×Nat×Ob)}(hn:(ls.map (·.1)).Nodup)(g:Nat×Nat×Ob→α){l:Nat×Nat×Ob}(hl:l∈ls):get (ls.map fun l=>(l.1,g l)) l.1=some (g l):=
 gm (by rw[List.map_map];exact hn) (List.mem_map.2 ⟨l,hl,rfl⟩)
theorem cP{α:Type}{ls:List (Nat×Nat×Ob)}(g:Nat×Nat×Ob→α){p:Nat}{x:α}(h:get (ls.map fun l=>(l.1,g l)) p=some x):∃l∈ls,l.1=p∧g l=x:=by
 obtain⟨l,hl,e⟩:=List.mem_map.1 (get_mem h);cases e;exact⟨l,hl,rfl,rfl⟩
section
variable {ls:List (Nat×Nat×Ob)} (hk:(ls.map (·.1)).Nodup) (hlo:∀l∈ls,fV o l)
include hk hlo
omit hlo in
theorem gx{l:Nat×Nat×Ob}(hl:l∈ls){b:Ob}(hg:get o l.2.1=some b):e_ E o ls l.1=E b.aw:=by
 simp only[e_,fO hk (fun l=>l.2.1) hl,hg]
theorem dK(bk:Nat):jn (cB ls) (e_ E o ls) bk↔LB E o ls bk:=by
 constructor
 ·rintro ⟨p,ob,cap,sz,h1,h2⟩;obtain⟨l,hl,rfl,rfl⟩:=cP (fun l=>l.2.2) h1;obtain⟨b,hg,_,hver,_⟩:=hlo l hl;rw[hver,gx hk hl hg] at h2;exact⟨l,hl,b,cap,sz,hg,h2⟩
 ·rintro ⟨l,hl,b,cap,sz,hg,hE⟩;obtain⟨b',hg',_,hver,_⟩:=hlo l hl;exact⟨l.1,l.2.2,cap,sz,fO hk (fun l=>l.2.2) hl,by rw[hver,gx hk hl hg];exact hE⟩
omit hk in
theorem pk{bk:Nat}(h:LB E o ls bk):(cx F Pr E o w).U bk:=by
 obtain⟨l,hl,b,cap,sz,hg,hE⟩:=h;obtain⟨b',hg',hw,_⟩:=hlo l hl;rw[hg] at hg';cases hg';exact .inl ⟨_,b,cap,sz,hg,hw,hE⟩
end
theorem rC(R:Rel F Pr w0 lb N E n t o a w){bk:Nat}(h:(cx F Pr E o w).U bk):bk<w.heap.size:=by
 rcases h with⟨id,ob,cap,sz,g1,_,g3⟩|hpr
 ·exact(R.place id ob bk cap sz g1 g3).1
 ·exact Nat.lt_of_lt_of_le (R.pr.1 bk hpr).1 R.size
theorem mD(R:Rel F Pr w0 lb N E n t o a w){nn:Nat}{n':Nat→Prop}(hn:Fr n nn n'){cf:ay}(hcf:fp P F cf){f:Nat}{vals:List V}{lend:List Nat}{thaw:List (Nat×Nat)}(hth:∀p∈thaw,p.1<15)
  {xs:Array Value} (hx:vals.length=xs.size) (hr:∀(i:Nat) (v:V) (x:Value),vals[i]? =some v→xs[i]? =some x→bW (cx F Pr E o w) v x) {v:V} {bf:List (Nat×Ob)}
  (h:bS cf nn o f vals lend thaw=some (v,bf)):j_ P F f=true∧Calls P (F f) xs w fun e w'=>∃val E',e= .returned val∧Rel F Pr w0 lb N E' n' t (bf++o) a w'∧bW (cx F Pr E' (bf++o) w') v val:=by
 unfold bS at h;split at h
 ·cases h
 rename_i as ls B hargs;split at h;rotate_left
 ·cases h
 rename_i hcond;obtain⟨h1000,hdisj,hnd⟩:=hcond;split at h
 ·cases h
 rename_i res after hres;split at h;rotate_left
 ·cases h
 rename_i ups1 v' ups2 hlb hbk;split at h;rotate_left
 ·cases h
 rename_i hflat;simp only[af,ah] at h;obtain⟨rfl,rfl⟩:=h;obtain⟨hlen,hls,hk⟩:=jR hargs (by omega);have hlo:∀l∈ls,fV o l:=fun l hl=>(hls l hl).2
 obtain⟨hokf,hcalls⟩:=hcf f as (cB ls) res after hres;refine⟨hokf, ?_⟩
 let Pr':Nat→Prop:=fun bk=>(cx F Pr E o w).U bk∧¬LB E o ls bk∧∀id∈B,¬lp E o id bk
 have hX0:∀bk,(cx F Pr' (e_ E o ls) (cB ls) w).U bk→LB E o ls bk∨Pr' bk:=by
  rintro bk (⟨id,ob,cap,sz,g1,_,g3⟩|hpr)
  ·exact .inl ((dK hk hlo bk).1 ⟨id,ob,cap,sz,g1,g3⟩)
  ·exact .inr hpr
 have hBL:∀id∈B,∀l∈ls,l.2.1≠id:=by
  intro id hid l hl e;simp only[au] at hdisj;have:=hdisj l.2.1 (List.mem_map.2 ⟨l,hl,rfl⟩);rw[e] at this;simp at this;exact this hid
 have D:Reads F Pr E o w B (cx F Pr' (e_ E o ls) (cB ls) w):=by
  refine⟨rfl,rfl, ?_, ?_⟩
  ·intro bk hu h;rcases hX0 bk h with h|h
   ·exact hu (pk hlo h)
   ·exact hu h.1
  ·intro id hid bk hb h;rcases hX0 bk h with h|h
   ·obtain⟨l,hl,ob',cap',sz',q1,q2⟩:=h;obtain⟨ob,cap,sz,q3,q4⟩:=hb;exact hBL id hid l hl (R.d_ _ _ ob' ob bk cap' sz' cap sz q1 q3 q2 q4)
   ·exact h.2.2 id hid hb
 have hE0:∀l∈ls,∀ob,get o l.2.1=some ob→(cx F Pr' (e_ E o ls) (cB ls) w).E l.1=E ob.aw:=fun l hl ob hg=>gx hk hl hg
 obtain⟨_,hargsR⟩:=iz R D (xs:=xs.toList) hargs (by simpa using hx) (fun i v x h1 h2=>hr i v x h1 (by simpa using h2)) (fun id h=>h) hE0;have entry:Entry F Pr' (e_ E o ls) as (cB ls) xs w:=by
  refine⟨by rw[hlen];exact hx,fun i v x h1 h2=>hargsR i v x h1 (by simpa using h2), ?_, ?_, ?_, ?_, ?_⟩
  ·intro p ob hg;obtain⟨l,hl,rfl,rfl⟩:=cP (fun l=>l.2.2) hg;obtain⟨b,loc,k1,k2,k3⟩:=oj R D (hlo l hl);obtain⟨b',g1,g2,g3,g4,g5,_⟩:=hlo l hl;have:=(hls l hl).1;simp only[hP] at this;exact⟨g3,⟨by simp only[dn,Bool.or_eq_true,decide_eq_true_eq];omega,by omega⟩,g5,loc,by rw[gx hk hl k1];exact k2,k3⟩
  ·intro p ob bk cap sz hg hE;obtain⟨l,hl,b,c,s,k1,k2⟩:=(dK hk hlo bk).1 ⟨p,ob,cap,sz,hg,hE⟩;exact(R.place _ b bk c s k1 k2).1
  ·intro p p' ob ob' bk cap sz cap' sz' hg hg' hE hE';obtain⟨l,hl,rfl,rfl⟩:=cP (fun l=>l.2.2) hg;obtain⟨l',hl',rfl,rfl⟩:=cP (fun l=>l.2.2) hg';obtain⟨b,g1,_,g3,_⟩:=hlo l hl;obtain⟨b',g1',_,g3',_⟩:=hlo l' hl';rw[g3,gx hk hl g1] at hE;rw[g3',gx hk hl' g1'] at hE';have:=R.d_ _ _ b b' bk cap sz cap' sz' g1 g1' hE hE';rw[dG (f:=fun l=>l.2.1) hnd hl hl' this]
  ·intro aw l hE;unfold e_ at hE;split at hE
   ·rename_i id hid;obtain⟨l,hl,rfl,_⟩:=cP (fun l=>l.2.1) hid;have:=(hls l hl).1;simp only[hP] at this;omega
   ·cases hE
  ·refine⟨fun bk hb=>⟨rC R hb.1,fun q=>hb.2.1 ((dK hk hlo bk).1 q)⟩, ?_⟩;rcases R.pr.2 with g0|⟨g1,g2,m,g3⟩
   ·exact .inl g0
   ·refine .inr ⟨Nat.lt_of_lt_of_le g1 R.size,fun q=> ?_,m,by rw[nv (R.frame _ g1 g2)];exact g3⟩;obtain⟨l,hl,b,c,s,k1,k2⟩:=(dK hk hlo _).1 q;rcases (R.place _ b _ c s k1 k2).2 with z|z
    ·exact absurd g1 (Nat.not_lt.2 z)
    ·exact g2 z
 refine(hcalls Pr' (e_ E o ls) xs w entry).mono ?_;rintro e w' ⟨val,E',own,rfl,Bk⟩
 let E2:Nat→Option Loc:=fun v=>if v=nn+15 then some .nil else if nn≤v∧v<nn+16 then(get thaw (v-nn)).bind (fun _=>own (v-nn)) else E v
 refine⟨val,E2,rfl, ?_⟩;have hEold:∀aw l,E aw=some l→E2 aw=some l:=by
  intro aw l h;have hne:¬(nn≤aw∧aw<nn+16):=fun q=>hn.new aw q.1 q.2 (R.fresh aw l h)
  simp only[E2];rw[if_neg (by omega),if_neg hne];exact h
 have hEobj:∀id ob,get o id=some ob→E2 ob.aw=E ob.aw:=by
  intro id ob h;have hne:¬(nn≤ob.aw∧ob.aw<nn+16):=fun q=>hn.new ob.aw q.1 q.2 (R.dO id ob h).1
  simp only[E2];rw[if_neg (by omega),if_neg hne]
 have hEown:∀q id,get thaw q=some id→E2 (nn+q)=own q:=by
  intro q id h;have hq16:=hth _ (get_mem h);simp only at hq16;simp only[E2];rw[if_neg (by omega),if_pos (by omega),show nn+q-nn=q from by omega,h];rfl
 have hE15:E2 (nn+15)=some .nil:=if_pos rfl;obtain⟨hlb1,hlb2⟩:=gT hlb;have hcls:∀id ob2,get ((ups1++ups2)++o) id=some ob2→get ups1 id=some ob2∨(get ups2 id=some ob2)∨(get o id=some ob2∧∀l∈ls,l.2.1≠id):=by
  intro id ob2 hg;rw[get_append,get_append] at hg;cases h1:get ups1 id with
  |some x=>rw[h1] at hg;simp at hg;exact .inl (by rw[hg])
  |none=>
   cases h2:get ups2 id with
   |some x=>rw[h1,h2] at hg;simp at hg;exact .inr (.inl (by rw[hg]))
   |none=>
    rw[h1,h2] at hg;simp at hg;refine .inr (.inr ⟨hg,fun l hl e=> ?_⟩);obtain⟨ob,hob⟩:=hlb2 l hl;rw[e,h1] at hob;cases hob
 have mu:∀l∈ls,get (cB ls) l.1=some l.2.2:=fun l hl=>fO hk (fun l=>l.2.2) hl
 have hNotL:∀id ob bk cap sz,get o id=some ob→E ob.aw=some (.cK bk cap sz)→(∀l∈ls,l.2.1≠id)→¬LB E o ls bk:=by
  rintro id ob bk cap sz h1 h2 h3 ⟨l,hl,ob',cap',sz',q1,q2⟩;exact h3 l hl (R.d_ _ _ ob' ob bk cap' sz' cap sz q1 h1 q2 h2)
 have hLBlt:∀bk,LB E o ls bk→bk<w.heap.size:=fun bk h=>rC (Pr:=Pr) R (pk hlo h)
 let LBk:Nat→Prop:=fun bk=>∃l∈ls,get after l.1≠none∧lp E o l.2.1 bk
 have hLBk:∀bk,LBk bk→LB E o ls bk:=fun bk ⟨l,hl,_,h⟩=>⟨l,hl,h⟩
 have hpre:∀(T2:List (Nat×Ob)),(∀u∈T2,∃q l,get thaw q=some u.1∧own q=some l∧u.2.aw=nn+q)→(∀id ob2,get ((ups1++T2)++o) id=some ob2→get ups1 id=some ob2∨(get T2 id=some ob2)∨(get o id=some ob2∧∀l∈ls,l.2.1≠id))→
   ∀bk,(cx F Pr E2 ((ups1++T2)++o) w').U bk→LBk bk∨(∃q cap sz id,get thaw q=some id∧own q=some (.cK bk cap sz))∨((cx F Pr E o w).U bk∧¬LB E o ls bk):=by
  rintro T2 hT hc bk (⟨id,ob,cap,sz,g1,g2,g3⟩|hpr)
  ·rcases hc id ob g1 with h|h|⟨h,h'⟩
   ·obtain⟨l,hl,b,e1,e3,e4⟩:=hlb1 (id,ob) (get_mem h);simp only at e1 e3 e4;cases e2:get after l.1 with
    |none=>
     rw[e2] at e4;subst e4;simp only[eV] at g3;rw[hE15] at g3;cases g3
    |some b'=>
     rw[e2] at e4;subst e4;refine .inl ⟨l,hl,by rw[e2];simp,b,cap,sz,by rw[e1];exact e3, ?_⟩;rw[←hEobj id b e3];exact g3
   ·obtain⟨q,l,e1,e2,e3⟩:=hT (id,ob) (get_mem h);simp only at e1 e3;rw[e3,hEown q id e1] at g3;exact .inr (.inl ⟨q,cap,sz,id,e1,g3⟩)
   ·rw[hEobj id ob h] at g3;exact .inr (.inr ⟨.inl ⟨id,ob,cap,sz,h,g2,g3⟩,hNotL id ob bk cap sz h g3 h'⟩)
  ·refine .inr (.inr ⟨.inr hpr, ?_⟩);rintro ⟨l,hl,ob',cap',sz',q1,q2⟩;have h1:=R.pr.1 bk hpr;rcases (R.place _ ob' bk cap' sz' q1 q2).2 with q|q
   ·omega
   ·exact h1.2 q
 have hhl:∀Y:Cx,Y.E=E2→∀p id aw,get (ls.map fun l=>(l.1,l.2.1,(get o l.2.1).elim 0 (·.aw))) p=some (id,aw)→∃ob,get (cB ls) p=some ob∧∀l,(rx F Pr' (e_ E o ls) (cB ls) E' own w').E p=some l→Y.E aw=some l:=by
  intro Y hY p id aw hg;obtain⟨l,hl,rfl,e⟩:=cP (fun l=>(l.2.1,(get o l.2.1).elim 0 (·.aw))) hg;obtain⟨b,g1,_⟩:=hlo l hl;simp only[g1,Option.elim_some,ah] at e;obtain⟨rfl,rfl⟩:=e;refine⟨_,mu l hl,fun loc hloc=> ?_⟩;obtain⟨_,loc',h1,_⟩:=R.dO _ b g1;have h2:=Bk.ext l.1 loc' (by rw[gx hk hl g1];exact h1);rw[show (rx F Pr' (e_ E o ls) (cB ls) E' own w').E=E' from rfl,h2] at hloc;cases hloc;rw[hY];exact hEold _ _ h1
 have hfl:gw (rx F Pr' (e_ E o ls) (cB ls) E' own w') {w:=w',U:=fun _=>False,E:=E2,F:=F}∨(!B.isEmpty)=true:=
  .inl (kN (by rfl) (fun ad v _ hcell=>⟨hcell,fun h=>h⟩))
 have hfl2:(!B.isEmpty)=true→res.flat=true:=by
  intro hb;rcases hflat with q|q
  ·rw[q] at hb;cases hb
  ·exact q.1
 have hthaw:=(mF (X:=rx F Pr' (e_ E o ls) (cB ls) E' own w') (Y:={w:=w',U:=fun _=>False,E:=E2,F:=F}) (own:=own) (lent:=cB ls) ⟨rfl,fun q id h=>hEown q id h,fun _ _ _ _ _ _ h=>h,hhl _ rfl⟩ hfl hfl2 hbk Bk.res).2;have hU:=hpre ups2 (fun u hu=>by obtain⟨q,l,h1,h2,h3,_⟩:=hthaw u hu;exact⟨q,l,h1,h2,h3⟩) hcls;have hLX:∀bk,LB E o ls bk→(rx F Pr' (e_ E o ls) (cB ls) E' own w').U bk:=fun bk h=> .inl ((dK hk hlo bk).2 h)
 have hmv:gw (rx F Pr' (e_ E o ls) (cB ls) E' own w') (cx F Pr E2 ((ups1++ups2)++o) w')∨(!B.isEmpty)=true:=by
  cases hB:B with
  |cons x xs=>exact .inr rfl
  |nil=>
   refine .inl (kN (by rfl) (fun ad v hu hcell=>⟨hcell,fun h=>hu ?_⟩));rcases hU _ h with h|⟨q,cap,sz,id,_,h⟩|⟨h1,h2⟩
   ·exact hLX _ (hLBk _ h)
   ·exact .inr (.inr ⟨q,cap,sz,h⟩)
   ·exact .inr (.inl ⟨h1,h2,by rw[hB];intro id hid;simp at hid⟩)
 have hgone:∀b,(∃p ob cap' sz',get (cB ls) p=some ob∧get after p=none∧e_ E o ls ob.aw=some (.cK b cap' sz'))→∃l∈ls,get after l.1=none∧lp E o l.2.1 b:=by
  rintro b ⟨p,ob,cap',sz',h1,h2,h3⟩;obtain⟨l,hl,rfl,rfl⟩:=cP (fun l=>l.2.2) h1;obtain⟨b',hg',_,hver,_⟩:=hlo l hl;rw[hver,gx hk hl hg'] at h3;exact⟨l,hl,h2,b',cap',sz',hg',h3⟩
 have H:Home (rx F Pr' (e_ E o ls) (cB ls) E' own w') (cx F Pr E2 ((ups1++ups2)++o) w') own (cB ls) nn (ls.map fun l=>(l.1,l.2.1,(get o l.2.1).elim 0 (·.aw))) thaw:=by
  refine⟨rfl,fun q id h=>hEown q id h, ?_,hhl _ rfl⟩;intro q b cap sz hq ou h;have hge:=(Bk.fresh q b cap sz ou).1;rcases hU _ h with h|⟨q',cap',sz',id,h1,h2⟩|⟨h1,h3⟩
  ·rcases hge with hge|hge
   ·have:=hLBlt b (hLBk b h);omega
   ·obtain⟨l0,hl0,h0,hb0⟩:=hgone b hge;obtain⟨l,hl,ha,hb⟩:=h;obtain⟨ob1,c1,s1,x1,y1⟩:=hb;obtain⟨ob2,c2,s2,x2,y2⟩:=hb0;have:=R.d_ _ _ ob1 ob2 b c1 s1 c2 s2 x1 x2 y1 y2;have:=dG (f:=fun l=>l.2.1) hnd hl hl0 this;rw[this] at ha;exact ha h0
  ·have:=Bk.d_ q q' b cap sz cap' sz' ou h2;subst this;rw[hq] at h1;cases h1
  ·rcases hge with hge|hge
   ·have:=rC R h1;omega
   ·obtain⟨l0,hl0,h0,hb0⟩:=hgone b hge;exact h3 ⟨l0,hl0,hb0⟩
 refine⟨?_,(mF H hmv hfl2 hbk Bk.res).1⟩;have hframe:∀bk,bk<w.heap.size→¬LB E o ls bk→w'.heap[bk]? =w.heap[bk]? :=fun bk h1 h2=>Bk.frame bk h1 fun h=>h2 ((dK hk hlo bk).1 h)
 have K:cV (cx F Pr E o w) (cx F Pr E2 ((ups1++ups2)++o) w'):=by
  refine⟨rfl,hEold,fun ad v hu hc=> ?_⟩;have hlt:ad.block<w.heap.size:=mC hc;refine⟨(eT (hframe _ hlt fun h=>hu (pk hlo h))).trans hc,fun h=> ?_⟩;rcases hU _ h with h|⟨q,cap,sz,id,_,h⟩|⟨h1,h2⟩
  ·exact hu (pk hlo (hLBk _ h))
  ·rcases (Bk.fresh q _ cap sz h).1 with z|z
   ·omega
   ·obtain⟨l0,hl0,_,hb0⟩:=hgone _ z;exact hu (pk hlo ⟨l0,hl0,hb0⟩)
  ·exact hu h1
 have hplace:∀id ob bk cap sz,get ((ups1++ups2)++o) id=some ob→E2 ob.aw=some (.cK bk cap sz)→(∃b,get o id=some b∧b.aw=ob.aw∧E b.aw=some (.cK bk cap sz))∨∃q,get thaw q=some id∧ob.aw=nn+q∧own q=some (.cK bk cap sz):=by
  intro id ob bk cap sz hg hE;rcases hcls id ob hg with h|h|⟨h,_⟩
  ·obtain⟨l,hl,b,e1,e3,e4⟩:=hlb1 (id,ob) (get_mem h);simp only at e1 e3 e4;cases e2:get after l.1 with
   |none=>
    rw[e2] at e4;subst e4;simp only[eV] at hE;rw[hE15] at hE;cases hE
   |some b'=>
    rw[e2] at e4;subst e4;exact .inl ⟨b,e3,rfl,by rw[←hEobj id b e3];exact hE⟩
  ·obtain⟨q,l,h1,h2,h3,_⟩:=hthaw (id,ob) (get_mem h);simp only at h1 h3;rw[h3,hEown q id h1] at hE;exact .inr ⟨q,h1,h3,hE⟩
  ·exact .inl ⟨ob,h,rfl,by rw[←hEobj id ob h];exact hE⟩
 have hdead:∀bk,(∃p ob cap' sz',get (cB ls) p=some ob∧get after p=none∧e_ E o ls ob.aw=some (.cK bk cap' sz'))→∀id ob b cap sz cap2 sz2,get ((ups1++ups2)++o) id=some ob→E2 ob.aw=some (.cK bk cap sz)→get o id=some b→E b.aw=some (.cK bk cap2 sz2)→False:=by
  intro bk hz id ob b cap sz cap2 sz2 hg hE h1 h3;obtain⟨l0,hl0,h0,ob2,c2,s2,x2,y2⟩:=hgone bk hz;have hid:=R.d_ _ _ b ob2 bk cap2 sz2 c2 s2 h1 x2 h3 y2;subst hid;obtain⟨x,hx⟩:=hlb2 l0 hl0;rw[get_append,get_append,hx] at hg;simp only[Option.some_or,af] at hg;subst hg;obtain⟨l,hl,b3,e1,e3,e4⟩:=hlb1 (l0.2.1,x) (get_mem hx);simp only at e1 e3 e4;have:=dG (f:=fun l=>l.2.1) hnd hl hl0 e1;rw[this,h0] at e4;subst e4;simp only[eV] at hE;rw[hE15] at hE;cases hE
 refine⟨Bk.os.trans R.os,Bk.tape.trans R.tape,Bk.output.trans R.output,Nat.le_trans R.size Bk.size, ?_,R.defers,R.nt,fun d v hv=>(R.tmps d v hv).mono K, ?_, ?_, ?_, ?_,R.pr,fun v l h=>hEold _ _ (R.ext v l h)⟩
 ·intro bk h1 h2;refine(hframe bk (Nat.lt_of_lt_of_le h1 R.size) ?_).trans (R.frame bk h1 h2);rintro ⟨l,hl,ob',cap',sz',q1,q2⟩;rcases (R.place _ ob' bk cap' sz' q1 q2).2 with q|q
  ·omega
  ·exact h2 q
 ·intro id ob hg;rcases hcls id ob hg with h|h|⟨h,hnl⟩
  ·obtain⟨l,hl,b,e1,e3,e4⟩:=hlb1 (id,ob) (get_mem h);simp only at e1 e3 e4;cases e2:get after l.1 with
   |none=>
    rw[e2] at e4;subst e4;exact⟨hn.add _ (by simp only[eV];omega) (by simp only[eV];omega),.nil,hE15,rfl,rfl⟩
   |some b'=>
   rw[e2] at e4;simp only[eV] at e4;obtain⟨hver,loc,hloc,_⟩:=R.dO id b e3;obtain⟨b2,g1,g2,g3,g4,g5,g6,_⟩:=hlo l hl;rw[e1,e3] at g1;cases g1;obtain⟨k1,k2⟩:=Bk.dO l.1 l.2.2 b' loc (mu l hl) e2 (by rw[gx hk hl (by rw[e1];exact e3)];exact hloc);subst e4;refine⟨hn.cU _ hver,loc,hEold _ _ hloc, ?_⟩;cases loc with
   |nil=>exact⟨k1.1,by have:=k1.2;simp only at this ⊢;rw[←g6];exact this⟩
   |cK bk cap sz=>
    refine⟨by have:=k1.1;simp only at this ⊢;rw[←g4];exact this,k1.2.move rfl rfl (by simp only;exact g4.symm) (fun _=>k2) fun i j r t v hi ht hv=> ?_⟩;rcases hmv with q|q
    ·exact q _ _ (k2 i j r t hi ht) hv
    ·rcases hflat with q'|q'
     ·rw[q'] at q;cases q
     ·have hall:=q'.2;simp only[au (l:=ups1)] at hall;exact hv.scalar (fT (hall _ (get_mem h)) hi ht)
  ·obtain⟨q,l,h1,h2,h3,h4,h5,h6,h7⟩:=hthaw (id,ob) (get_mem h);simp only at h1 h3 h4 h5 h6 h7;have hq16:=hth _ (get_mem h1);simp only at hq16;refine⟨by rw[h3];exact hn.add _ (by omega) (by omega),l,by rw[h3,hEown q id h1];exact h2, ?_⟩;cases l with
   |nil=>exact h6
   |cK bk cap sz=>
    refine⟨h6.1,h6.2.move rfl rfl rfl h6.2.cl fun i j r t v hi ht hv=> ?_⟩;rcases hmv with q|q
    ·exact q _ _ (h5 i j r t hi ht) hv
    ·exact hv.scalar (fT (h7 q) hi ht)
  ·obtain⟨hver,loc,hloc,hrl⟩:=R.dO id ob h;refine⟨hn.cU _ hver,loc,hEold _ _ hloc, ?_⟩;cases loc with
   |nil=>exact hrl
   |cK bk cap sz=>exact⟨hrl.1,hrl.2.mono K (hframe bk (R.place id ob bk cap sz h hloc).1 (hNotL id ob bk cap sz h hloc hnl))⟩
 ·intro id ob bk cap sz hg hE;rcases hplace id ob bk cap sz hg hE with⟨b,h1,h2,h3⟩|⟨q,h1,h2,h3⟩
  ·obtain⟨q1,q2⟩:=R.place id b bk cap sz h1 h3;exact⟨Nat.lt_of_lt_of_le q1 Bk.size,q2⟩
  ·obtain⟨q1,q2⟩:=Bk.fresh q bk cap sz h3;refine⟨q2, ?_⟩;rcases q1 with q1|q1
   ·exact .inl (Nat.le_trans R.size q1)
   ·obtain⟨l0,hl0,_,ob2,c2,s2,x2,y2⟩:=hgone bk q1;exact(R.place _ ob2 bk c2 s2 x2 y2).2
 ·intro id id' ob ob' bk cap sz cap' sz' hg hg' hE hE';rcases hplace id ob bk cap sz hg hE with⟨b,h1,h2,h3⟩|⟨q,h1,h2,h3⟩<;>rcases hplace id' ob' bk cap' sz' hg' hE' with⟨b',h1',h2',h3'⟩|⟨q',h1',h2',h3'⟩
  ·exact R.d_ id id' b b' bk cap sz cap' sz' h1 h1' h3 h3'
  ·have q1:=(R.place id b bk cap sz h1 h3).1;rcases (Bk.fresh q' bk cap' sz' h3').1 with q2|q2
   ·omega
   ·exact(hdead bk q2 id ob b cap sz cap sz hg hE h1 h3).elim
  ·have q1:=(R.place id' b' bk cap' sz' h1' h3').1;rcases (Bk.fresh q bk cap sz h3).1 with q2|q2
   ·omega
   ·exact(hdead bk q2 id' ob' b' cap' sz' cap' sz' hg' hE' h1' h3').elim
  ·have:=Bk.d_ q q' bk cap sz cap' sz' h3 h3';subst this;rw[h1] at h1';exact Option.some.inj h1'
 ·intro aw l hE;simp only[E2] at hE;split at hE
  ·rename_i hr;exact hn.add _ (by omega) (by omega)
  ·split at hE
   ·rename_i hr;exact hn.add _ hr.1 hr.2
   ·exact hn.cU _ (R.fresh aw l hE)
end Mx
namespace Mx
open Go
variable {P:Program} {F:Nat→FuncId} {Pr:Nat→Prop} {w0:World} {lb:Lb} {N:Nat} {E:Nat→Option Loc} {n:Nat→Prop} {t:List (Nat×V)} {o:List (Nat×Ob)} {a:Act} {w:World}
def ly:MO→Bool
 | .call _ _ _ thaw=>thaw.all fun p=>decide (p.1<15)
 |_=>true
def dX(P:Program)(F:Nat→FuncId):MO→Op→Bool
 | .eqs neg ks x y,op=>pL P F neg ks x y op
 |m,.call c=>fF P F m c&&ly m
 |m,op=>bq P F m op
def j9(ops:Array Oper):Option (Nat×Bool)→Option (Nat×Bool)→Bool
 |none,none=>true
 |some (g,b),some (j,b')=>b==b'&&((ops[j]?).bind (·.dst)==some g)
 |_,_=>false
def ml(P:Program)(F:Nat→FuncId)(N:Nat)(ops:Array Oper)(m:dj)(x:Oper):Bool:=
 (m.dst==x.dst)&&(match x.dst with|some d=>decide (d<N)|none=>true)&&j9 ops m.guard x.guard&&dX P F m.op x.op
theorem aE{n':Nat→Prop}{oper:Oper}{v:V}{bf:List (Nat×Ob)}(h:eE P F Pr w0 lb N n' t o a w oper v bf){next:Act→World→Prop}{Q:Exit→Act→World→Prop}
  (hnext:∀E' val w',Rel F Pr w0 lb N E' n' t (bf++o) a w'→bW (cx F Pr E' (bf++o) w') v val→next (a.put oper.dst val) w'):oper.wp P a w next Q:=by
 obtain⟨val,w',E',hran,R,hv⟩:=h;have:=hnext E' val w' R hv;unfold Oper.wp;rcases hran with h|⟨h,rfl⟩
 ·rw[h];exact this
 ·rw[h];exact this
theorem gM(f:FuncId)(xs:Array Value){n':Nat→Prop}{oper:Oper}{v:V}{bf:List (Nat×Ob)}(he:(execOp a.eval oper).run P w= .ok (.enter f xs) w)
  (h:Calls P f xs w fun e w'=>∃val E',e= .returned val∧Rel F Pr w0 lb N E' n' t (bf++o) a w'∧bW (cx F Pr E' (bf++o) w') v val) {next:Act→World→Prop} {Q:Exit→Act→World→Prop}
  (hnext:∀E' val w',Rel F Pr w0 lb N E' n' t (bf++o) a w'→bW (cx F Pr E' (bf++o) w') v val→next (a.put oper.dst val) w'):oper.wp P a w next Q:=by
 unfold Oper.wp;rw[he,Oper.upon_enter];refine h.mono ?_;rintro e w' ⟨val,E',rfl,R,hv⟩;exact hnext E' val w' R hv
theorem kL{f:Nat}(h:j_ P F f=true)(xs:Array Value)(w:World):(callFunc (F f) xs).run P w= .ok (.enter (F f) xs) w:=by
 unfold j_ at h;split at h
 ·rename_i fn hfn;simp only[ae,bne_iff_ne,ne_eq,Option.isSome_iff_exists] at h;obtain⟨h1,b,hb⟩:=h;simp[callFunc,hfn,h1,hb]
 ·cases h
theorem gF(R:Rel F Pr w0 lb N E n t o a w):∀{xs:List O} {ys:List Operand} {vs:List V},ia F xs ys=true→bB (look t) xs=some vs→
  vs.length=ys.length∧∀(i:Nat) (v:V) (x:Value),vs[i]? =some v→(ys.map a.eval)[i]? =some x→bW (cx F Pr E o w) v x
 |[],[],vs,_,h=>by simp[bB] at h;subst h;exact⟨rfl,fun i v x h=>by simp at h⟩
 |x::xs,y::ys,vs,hok,h=>by
  simp only[ia,ae] at hok;simp only[bB] at h;split at h
  ·rename_i v vs' h1 h2;cases h;obtain⟨i1,i2⟩:=gF R hok.2 h2;refine⟨by simp[i1],fun i u z hu hz=> ?_⟩;cases i with
   |zero=>simp at hu hz;subst hu hz;exact cm R hok.1 h1
   |succ i=>exact i2 i u z (by simpa using hu) (by simpa using hz)
  ·cases h
 |[],_::_,_,hok,_=>by simp[ia] at hok
 |_::_,[],_,hok,_=>by simp[ia] at hok
theorem n8{m:MO}{op:Op}(h:dX P F m op=true)(hne:∀c,op≠.call c)(hm:∀neg ks x y,m≠.eqs neg ks x y):bq P F m op=true:=by
 unfold dX at h;split at h
 ·exact(hm _ _ _ _ rfl).elim
 ·exact(hne _ rfl).elim
 ·exact h
theorem oZ(R:Rel F Pr w0 lb N E n t o a w){nn:Nat}{n':Nat→Prop}(hn:Fr n nn n'){cf:ay}(hcf:fp P F cf){d:Nat}{m:MO}{oper:Oper}(hok:dX P F m oper.op=true){v:V}{bf:List (Nat×Ob)}
  (h:act cf nn d t o m=some (v,bf)) {next:Act→World→Prop} {Q:Exit→Act→World→Prop}
  (hnext:∀E' val w',Rel F Pr w0 lb N E' n' t (bf++o) a w'→bW (cx F Pr E' (bf++o) w') v val→next (a.put oper.dst val) w'):oper.wp P a w next Q:=by
 by_cases hc:∃c,oper.op= .call c
 ·obtain⟨c,hop⟩:=hc;rw[hop] at hok;cases m with
  |eqs neg ks x y=>exact aE (mJ R hn (oper:=oper) (by rw[hop];exact hok) h) hnext
  |len x=>simp only[dX,ae] at hok;exact aE (qy R hn hop hok.1 h) hnext
  |fC x=>simp only[dX,ae] at hok;exact aE (oV R hn hop hok.1 h) hnext
  |app sz bytes x y=>simp only[dX,ae] at hok;exact aE (qI R hn hop hok.1 h) hnext
  |lf sz bytes x y=>simp only[dX,ae] at hok;exact aE (o7 R hn hop hok.1 h) hnext
  |qU zero x=>simp only[dX,ae] at hok;exact aE (qD R hn hop hok.1 h) hnext
  |max x y=>simp only[dX,ae] at hok;exact aE (qx R hn hop hok.1 h) hnext
  |min x y=>simp only[dX,ae] at hok;exact aE (qw R hn hop hok.1 h) hnext
  |call f as lend thaw=>
   simp only[dX,ae,ly,au,decide_eq_true_eq] at hok;obtain⟨hok,hth⟩:=hok;simp only[fF] at hok;split at hok
   ·simp[okB] at hok
   ·rename_i g hg;simp only[ae] at hok;simp only[act] at h;split at h
    ·rename_i vals hvals;obtain⟨k1,k2⟩:=gF R hok.2 hvals;have hval:a.eval g= .func (.func (F f)) #[] #[]:=by
      have:=hok.1;unfold okO at this;split at this<;>first|(cases this;done)|skip
      all_goals simp_all[Act.eval]
     obtain⟨hf,hcalls⟩:=mD R hn hcf (xs:=c.args.map a.eval) hth (by simpa using k1) (fun i v x h1 h2=>k2 i v x h1 (by simpa using h2)) h;refine gM (F f) (c.args.map a.eval) ?_ hcalls hnext;simp[execOp,hop,resolve,hg,hval,Deferred.ofValue,invoke,kL hf]
    ·cases h
   ·cases hok
  |hJ x as=>
   simp only[dX,ae,ly,and_true] at hok;simp only[fF] at hok;split at hok
   ·simp[okB] at hok
   ·rename_i g hg;simp only[ae] at hok;simp only[act] at h;split at h
    ·rename_i f caps vals hx hvals;obtain⟨k1,k2⟩:=gF R hok.2 hvals;have hr:=aX R hok.1 hx;generalize hval:a.eval g=val at hr;cases hr with
     |fn _ _ cs hn' hrep=>
      have hlen:vals.length=c.args.size:=by simpa using k1
      obtain⟨hf,hcalls⟩:=mD R hn hcf (xs:=c.args.map a.eval++cs) (thaw:=[]) (by simp) (by simp[hlen,hn']) (fun i v x h1 h2=>by
       rw[aW] at h1;rw[Array.getElem?_append] at h2;simp only[Array.size_map,←hlen] at h2;split at h1
       ·rename_i hi;rw[if_pos hi] at h2;exact k2 i v x h1 (by simpa using h2)
       ·rename_i hi;rw[if_neg hi] at h2;rw[bJ,ab] at h1;obtain⟨q,hq,rfl⟩:=h1;exact .c _ _ (hrep _ q x hq h2)) h
      refine gM (F f) (c.args.map a.eval++cs) ?_ hcalls hnext;simp[execOp,hop,resolve,hg,hval,Deferred.ofValue,invoke];rw[show (cx F Pr E o w).F f=F f from rfl];simp[kL hf]
    ·cases h
   ·cases hok
  |_=>
   simp only[dX,ae,fF] at hok;exfalso;obtain⟨hok,_⟩:=hok;revert hok;split<;>simp[okB]
 ·have hne:∀c,oper.op≠.call c:=fun c e=>hc ⟨c,e⟩
  have hop:=fun hm=>n8 hok hne hm
  cases m with
  |eqs neg ks x y=>exact aE (mJ R hn (oper:=oper) hok h) hnext
  |np=>exact aE (rA R hn (hop (by intros;exact MO.noConfusion)) h) hnext
  |mv x=>exact aE (rB R hn (hop (by intros;exact MO.noConfusion)) h) hnext
  |nil z=>exact aE (qq R hn (hop (by intros;exact MO.noConfusion)) h) hnext
  |pick c x y=>exact aE (oY R hn (hop (by intros;exact MO.noConfusion)) h) hnext
  |alloc z=>exact aE (nF R hn (hop (by intros;exact MO.noConfusion)) h) hnext
  |box x=>exact aE (qE R hn (hop (by intros;exact MO.noConfusion)) h) hnext
  |build z ps=>exact aE (nE R hn (hop (by intros;exact MO.noConfusion)) h) hnext
  |cd sz l z ps=>exact aE (l7 R hn (hop (by intros;exact MO.noConfusion)) h) hnext
  |ie sz l z ps=>exact aE (o6 R hn (hop (by intros;exact MO.noConfusion)) h) hnext
  |load ag k x=>exact aE (o4 R hn (hop (by intros;exact MO.noConfusion)) h) hnext
  |store k x y=>exact aE (nB R hn (hop (by intros;exact MO.noConfusion)) (fun h1 h2=>⟨kq R h1 h2,fS R h1 h2⟩) h) hnext
  |bin op x y=>exact aE (qF R hn (hop (by intros;exact MO.noConfusion)) h) hnext
  |beq ng x y=>exact aE (qG R hn (hop (by intros;exact MO.noConfusion)) h) hnext
  |not x=>exact aE (qp R hn (hop (by intros;exact MO.noConfusion)) h) hnext
  |neg x=>exact aE (qt R hn (hop (by intros;exact MO.noConfusion)) h) hnext
  |lQ k x=>exact aE (qA R hn (hop (by intros;exact MO.noConfusion)) h) hnext
  |qV x=>exact aE (qH R hn (hop (by intros;exact MO.noConfusion)) h) hnext
  |rI sz b z x=>exact aE (qu R hn (hop (by intros;exact MO.noConfusion)) h) hnext
  |rJ sz b z x y=>exact aE (qv R hn (hop (by intros;exact MO.noConfusion)) h) hnext
  |iI x lo hi=>exact aE (oU R hn (hop (by intros;exact MO.noConfusion)) h) hnext
  |kG sz x lo hi=>exact aE (oW R hn (hop (by intros;exact MO.noConfusion)) h) hnext
  |qO sz x lo hi mx=>exact aE (qo R hn (hop (by intros;exact MO.noConfusion)) h) hnext
  |fI off x=>exact aE (nD R hn (hop (by intros;exact MO.noConfusion)) h) hnext
  |dB sz x ix=>exact aE (nC R hn (hop (by intros;exact MO.noConfusion)) h) hnext
  |idx x ix=>exact aE (qz R hn (hop (by intros;exact MO.noConfusion)) h) hnext
  |p5 ag off k x=>exact aE (qB R hn (hop (by intros;exact MO.noConfusion)) h) hnext
  |ext i x=>exact aE (qC R hn (hop (by intros;exact MO.noConfusion)) h) hnext
  |lL f cs=>exact aE (o3 R hn (hop (by intros;exact MO.noConfusion)) h) hnext
  |fD x=>exact aE (o2 R hn (hop (by intros;exact MO.noConfusion)) h) hnext
  |_=>have:=hop (by intros;exact MO.noConfusion);revert this;unfold bq;split<;>simp_all
theorem fq(R:Rel F Pr w0 lb N E n t o a w){ops:Array Oper}{g:Option (Nat×Bool)}{x:Oper}(h:j9 ops g x.guard=true){b:Bool}(hw:wanted t g=some b):Region.wanted x (yielded ops a.tmps)=b:=by
 unfold j9 at h;split at h
 ·rename_i h1 h2;simp only[wanted,af] at hw;subst hw;simp[Region.wanted,h2]
 ·rename_i h1 h2 g b1 j b2 hx;simp only[ae,beq_iff_eq] at h;obtain⟨rfl,hd⟩:=h;simp only[wanted] at hw;simp only[Region.wanted,hx,yielded,hd,Option.bind_some];split at hw
  ·rename_i v hv;cases hw;have:=(R.tmps g _ hv).ji.gr;rw[aI] at this;cases hq:a.tmps[g]? with
   |none=>rw[hq] at this;simp[undef] at this
   |some u=>rw[hq] at this;simp at this;subst this;simp
  ·rename_i hv;cases hw;have:=R.tmps g _ hv;cases this with
   |undef _ hb=>
    rw[aI] at hb;cases hq:a.tmps[g]? with
    |none=>simp
    |some u=>
     rw[hq] at hb;simp only[cw] at hb;cases u with
     |bool v=>exact(hb v rfl).elim
     |_=>simp
  ·cases hw
 ·cases h
end Mx
namespace Mx
open Go
def Sub(o o':List (Nat×Ob)):Prop:=∀id b,get o id=some b→get o' id=some b
variable {o o':List (Nat×Ob)}
theorem cO{α β:Type}{f g:α→Option β}(h:∀x y,f x=some y→g x=some y):∀{l:List α} {r:List β},bB f l=some r→bB g l=some r
 |[],r,hm=>hm
 |x::l,r,hm=>by
  simp only[bB] at hm ⊢;split at hm
  ·rename_i y ys h1 h2;rw[h x y h1,cO h h2];exact hm
  ·cases hm
theorem iu(S:Sub o o'){t y:T}(h:fN o t=some y):fN o' t=some y∧wr o' t=wr o t:=by
 cases t with
 |row id aw off len=>
  simp only[fN] at h ⊢;split at h
  ·rename_i b hg;rw[S id b hg];exact⟨h,by simp only[wr,hg,S id b hg]⟩
  ·cases h
 |ptr=>simp[fN] at h
 |fn=>simp[fN] at h
 |_=>exact⟨h,rfl⟩
theorem km(S:Sub o o'){t y:T}(h:cl o t=some y):cl o' t=some y:=by
 cases t with
 |ptr=>simp[cl] at h
 |vp=>simp[cl] at h
 |fn=>simp[cl] at h
 |row id aw off len=>
  simp only[cl] at h ⊢;split at h
  ·rename_i hw;obtain⟨h1,h2⟩:=iu S h;rw[h2,if_pos hw];exact h1
  ·cases h
 |_=>exact h
theorem kf(S:Sub o o'){t y:T}(h:pq o t=some y):pq o' t=some y∧nM o' t=nM o t:=by
 cases t with
 |ptr id aw i j=>
  simp only[pq] at h ⊢;split at h
  ·rename_i b hg;rw[S id b hg];split at h
   ·rename_i hv;split at h
    ·rename_i r hr;rw[ab] at h;obtain⟨cells,hm,rfl⟩:=h;simp only[hv,if_true,hr];refine⟨?_, ?_⟩
     ·rw[cO (fun x y hx=>(iu S hx).1) hm];rfl
     ·simp only[nM,hg,S id b hg,hr,wr];congr 1;have:∀x∈r,wr o' x=wr o x:=by
       intro x hx;obtain⟨k,hk⟩:=List.getElem?_of_mem hx;obtain⟨z,_,hz⟩:=gG hm hk;exact(iu S hz).2
      clear hm hr
      induction r with
      |nil=>rfl
      |cons x r ih=>simp only[bY];rw[this x (by simp),ih (fun z hz=>this z (by simp[hz]))]
    ·cases h
   ·cases h
  ·cases h
 |_=>simp only[pq,nM] at h ⊢;exact iu S h
theorem gH(S:Sub o o'){t y:T}(h:im o t=some y):im o' t=some y∧mM o' t=mM o t:=by
 cases t with
 |fn f caps=>
  simp only[im,ab] at h ⊢;obtain⟨cs,hm,rfl⟩:=h;refine⟨⟨cs,cO (fun x y hx=>(kf S hx).1) hm,rfl⟩, ?_⟩;simp only[mM];have:∀x∈caps,nM o' x=nM o x:=by
   intro x hx;obtain⟨k,hk⟩:=List.getElem?_of_mem hx;obtain⟨z,_,hz⟩:=gG hm hk;exact(kf S hz).2
  clear hm
  induction caps with
  |nil=>rfl
  |cons x r ih=>simp only[bY];rw[this x (by simp),ih (fun z hz=>this z (by simp[hz]))]
 |_=>simp only[im,mM] at h ⊢;exact kf S h
theorem mr(S:Sub o o'){v y:V}(h:v.im o=some y):v.im o'=some y∧v.wr o'=v.wr o:=by
 cases v with
 |c t=>
  simp only[V.im,ab] at h ⊢;obtain⟨z,hz,rfl⟩:=h;exact⟨⟨z,(gH S hz).1,rfl⟩,(gH S hz).2⟩
 |a ts=>
  simp only[V.im,ab] at h ⊢;obtain⟨zs,hz,rfl⟩:=h;refine⟨⟨zs,cO (fun x y hx=>(gH S hx).1) hz,rfl⟩, ?_⟩;simp only[V.wr];have:∀x∈ts,mM o' x=mM o x:=by
   intro x hx;obtain⟨k,hk⟩:=List.getElem?_of_mem hx;obtain⟨z,_,hz⟩:=gG hz hk;exact(gH S hz).2
  clear hz
  induction ts with
  |nil=>rfl
  |cons x r ih=>simp only[bY];rw[this x (by simp),ih (fun z hz=>this z (by simp[hz]))]
 |fW=>simp[V.im] at h
 |undef=>simp[V.im] at h
theorem mX(S:Sub o o'){t:T}{r:List T×Nat}(h:place o t=some r):place o' t=some r:=by
 cases t with
 |ptr id aw i j=>
  simp only[place] at h ⊢;split at h
  ·rename_i b hg;rw[S id b hg];exact h
  ·cases h
 |_=>exact h
theorem eN(S:Sub o o'){t:T}{r:List (List T)}(h:rowsOf o t=some r):rowsOf o' t=some r∧fY o' t=fY o t:=by
 cases t with
 |row id aw off len=>
  simp only[rowsOf] at h ⊢;split at h
  ·rename_i b hg;rw[S id b hg];exact⟨h,by simp only[fY,hg,S id b hg]⟩
  ·cases h
 |_=>exact⟨h,rfl⟩
theorem jz(S:Sub o o'){sz:Nat}{t:T}{r:List (List T)}(h:gO o sz t=some r):gO o' sz t=some r:=by
 cases t with
 |str s=>exact h
 |_=>
  simp only[gO] at h ⊢;split at h
  ·rename_i ys hy;rw[(eN S hy).1,(eN S hy).2];exact h
  ·cases h
theorem gU(S:Sub o o'){p:Nat}{v:V}{r:V×Nat×Ob}(h:cW o p v=some r):cW o' p v=some r:=by
 unfold cW at h ⊢;split at h
 ·split at h
  ·rename_i b hg;rw[S _ b hg];simp only;split at h
   ·rename_i hc;rw[if_pos hc];rw[ab] at h ⊢;obtain⟨rows,hm,rfl⟩:=h;exact⟨rows,cO (fun x y hx=>cO (fun x y hx=>km S hx) hx) hm,rfl⟩
   ·cases h
  ·cases h
 ·split at h
  ·rename_i b hg;rw[S _ b hg];exact h
  ·cases h
 ·cases h
theorem jF(S:Sub o o'){lend:List Nat}:∀{ts:List T} {k:Nat} {r:List T×List (Nat×Nat×Ob)×List Nat},eo o lend k ts=some r→eo o' lend k ts=some r
 |[],k,r,h=>h
 |t::ts,k,r,h=>by
  simp only[eo] at h ⊢;cases ha:eo o lend (k+1) ts with
  |none=>rw[ha] at h;cases h
  |some x=>
   obtain⟨as,ls,b⟩:=x;rw[ha] at h;rw[jF S ha];simp only at h ⊢;split at h
   ·rename_i hp;rw[if_pos hp];cases hl:cW o k (.c t) with
    |none=>rw[hl] at h;cases h
    |some y=>rw[hl] at h;rw[gU S hl];exact h
   ·rename_i hp;rw[if_neg hp];cases hl:im o t with
    |none=>rw[hl] at h;cases h
    |some y=>rw[hl] at h;rw[(gH S hl).1,(gH S hl).2];exact h
theorem la(S:Sub o o'){lend:List Nat}:∀{vals:List V} {p:Nat} {r:List V×List (Nat×Nat×Ob)×List Nat},args o lend p vals=some r→args o' lend p vals=some r
 |[],p,r,h=>h
 |v::vals,p,r,h=>by
  simp only[args] at h ⊢;cases ha:args o lend (p+1) vals with
  |none=>rw[ha] at h;cases h
  |some x=>
   obtain⟨as,ls,b⟩:=x;rw[ha] at h;rw[la S ha];simp only at h ⊢;split at h
   ·rename_i hp;rw[if_pos hp];cases hl:cW o p v with
    |none=>rw[hl] at h;cases h
    |some y=>rw[hl] at h;rw[gU S hl];exact h
   ·rename_i hp;rw[if_neg hp];split at h
    ·rename_i hc;rw[if_pos hc];split at h
     ·split at h
      ·rename_i h64;simp only[if_pos h64];split at h
       ·rename_i ts' ls' b' hcl;rw[jF S hcl];exact h
       ·cases h
      ·cases h
     ·cases h
    ·rename_i hc;rw[if_neg hc];cases hl:v.im o with
     |none=>rw[hl] at h;cases h
     |some y=>rw[hl] at h;rw[(mr S hl).1,(mr S hl).2];exact h
theorem gh(S:Sub o o'){nn:Nat}{after:List (Nat×Ob)}:∀{ls:List (Nat×Nat×Ob)} {r:List (Nat×Ob)},cE nn o after ls=some r→cE nn o' after ls=some r∧(ls.map fun l=>(l.1,l.2.1,(get o' l.2.1).elim 0 (·.aw)))=ls.map fun l=>(l.1,l.2.1,(get o l.2.1).elim 0 (·.aw))
 |[],r,h=>⟨h,rfl⟩
 |(p,id,ob)::ls,r,h=>by
  simp only[cE] at h ⊢;split at h
  ·rename_i b l h2 h3;obtain⟨i1,i2⟩:=gh S h3;rw[S id b h2,i1];refine⟨h, ?_⟩;simp only[aY,i2,h2,S id b h2]
  ·cases h
theorem jf(S:Sub o o'){cf:ay}{n f:Nat}{vals:List V}{lend:List Nat}{thaw:List (Nat×Nat)}{r:V×List (Nat×Ob)}(h:bS cf n o f vals lend thaw=some r):bS cf n o' f vals lend thaw=some r:=by
 unfold bS at h ⊢;cases ha:args o lend 0 vals with
 |none=>rw[ha] at h;cases h
 |some x=>
  obtain⟨as,ls,b⟩:=x;rw[ha] at h;rw[la S ha];simp only at h ⊢;split at h
  ·rename_i hc;rw[if_pos hc];split at h
   ·cases h
   ·rename_i res after hres;cases hl:cE n o after ls with
    |none=>rw[hl] at h;cases h
    |some bf=>
     rw[hl] at h;obtain⟨i1,i2⟩:=gh S hl;simp only[i1,i2];exact h
  ·cases h
theorem rm{t t':List (Nat×V)}{x:O}(h:∀k∈x.tmps,get t' k=get t k):look t' x=look t x:=by
 cases x with
 |t n=>exact h n (by simp[O.tmps])
 |k v=>rfl
 |fn f=>rfl
theorem cY{α β:Type}{f g:α→Option β}:∀{l:List α},(∀x∈l,f x=g x)→bB f l=bB g l
 |[],_=>rfl
 |x::l,h=>by simp only[bB];rw[h x (by simp),cY (fun y hy=>h y (by simp[hy]))]
theorem sc{cf:ay}{n d:Nat}{t t':List (Nat×V)}{m:MO}(h:∀k∈m.tmps,get t' k=get t k):act cf n d t' o m=act cf n d t o m:=by
 have L:∀x:O,(∀k∈x.tmps,k∈m.tmps)→look t' x=look t x:=fun x hx=>rm fun k hk=>h k (hx k hk)
 have LT:∀x:O,(∀k∈x.tmps,k∈m.tmps)→bK t' x=bK t x:=fun x hx=>by simp only[bK,L x hx]
 have LI:∀x:O,(∀k∈x.tmps,k∈m.tmps)→gS t' x=gS t x:=fun x hx=>by simp only[gS,L x hx]
 have LBo:∀x:O,(∀k∈x.tmps,k∈m.tmps)→ei t' x=ei t x:=fun x hx=>by simp only[ei,L x hx]
 have LN:∀x:O,(∀k∈x.tmps,k∈m.tmps)→dP t' x=dP t x:=fun x hx=>by simp only[dP,L x hx]
 have LG:∀x:O,(∀k∈x.tmps,k∈m.tmps)→iV t' x=iV t x:=fun x hx=>by simp only[iV,L x hx]
 have LA:∀x:O,(∀k∈x.tmps,k∈m.tmps)→en t' x=en t x:=fun x hx=>by simp only[en,L x hx]
 have LO:∀(x:Option O) (dd:Nat),(∀k∈gg x,k∈m.tmps)→h_ t' dd x=h_ t dd x:=fun x dd hx=>by
  cases x with
  |none=>rfl
  |some x=>exact LN x hx
 cases m with
 |build zero parts=>
  simp only[act];congr 1;apply cY;intro x hx;rw[LA x.2.2 (fun k hk=>by simp only[MO.tmps,bL];exact⟨x,hx,hk⟩)]
 |cd sz len zero parts=>
  simp only[act];congr 1;apply cY;intro x hx;rw[LA x.2 (fun k hk=>by simp only[MO.tmps,bL];exact⟨x,hx,hk⟩)]
 |ie sz len zero parts=>
  simp only[act];congr 1;apply cY;intro x hx;rw[LA x.2 (fun k hk=>by simp only[MO.tmps,bL];exact⟨x,hx,hk⟩)]
 |call f as lend thaw=>
  simp only[act];rw[cY (f:=look t') (g:=look t) fun x hx=>L x fun k hk=>by simp only[MO.tmps,bL];exact⟨x,hx,hk⟩]
 |hJ f as=>
  simp only[act];rw[cY (f:=look t') (g:=look t) fun x hx=>L x fun k hk=>by simp only[MO.tmps,fa,bL];exact .inr ⟨x,hx,hk⟩,LT f fun k hk=>by simp only[MO.tmps,fa];exact .inl hk]
 |lL f caps=>
  simp only[act];rw[cY (f:=bK t') (g:=bK t) fun x hx=>LT x fun k hk=>by simp only[MO.tmps,bL];exact⟨x,hx,hk⟩]
 |pick c x y=>
  simp only[act];rw[LBo c (fun k hk=>by simp[MO.tmps,hk])];cases ei t c with
  |none=>rfl
  |some b=>cases b<;>simp[L x (fun k hk=>by simp[MO.tmps,hk]),L y (fun k hk=>by simp[MO.tmps,hk])]
 |iI x lo hi=>
  simp only[act];rw[LT x (fun k hk=>by simp[MO.tmps,hk])];cases bK t x with
  |none=>rfl
  |some z=>cases z<;>first|rfl|(simp only[LO lo 0 (fun k hk=>by simp[MO.tmps,hk]),LO hi _ (fun k hk=>by simp[MO.tmps,hk])])
 |kG sz x lo hi=>
  simp only[act];rw[LT x (fun k hk=>by simp[MO.tmps,hk])];simp only[LO lo 0 (fun k hk=>by simp[MO.tmps,hk]),LO hi _ (fun k hk=>by simp[MO.tmps,hk])]
 |qO sz x lo hi mx=>
  simp only[act];rw[LT x (fun k hk=>by simp[MO.tmps,hk])];simp only[LO lo 0 (fun k hk=>by simp[MO.tmps,hk]),LO hi _ (fun k hk=>by simp[MO.tmps,hk]),LO mx _ (fun k hk=>by simp[MO.tmps,hk])]
 |_=>simp only[act,MO.tmps,fa] at* <;>simp_all
theorem qn(S:Sub o o'){cf:ay}{n d:Nat}{t:List (Nat×V)}{m:MO}{r:V×List (Nat×Ob)}(h:act cf n d t o m=some r):act cf n d t o' m=some r:=by
 cases m with
 |cd sz len zero parts=>
  simp only[act,ab] at h ⊢;obtain⟨ps,hm,rfl⟩:=h;refine⟨ps,cO ?_ hm,rfl⟩;intro x y hx;split at hx
  ·split at hx
   ·rename_i hc;rw[if_pos hc];rw[ab] at hx ⊢;obtain⟨z,hz,rfl⟩:=hx;exact⟨z,cO (fun x y hx=>km S hx) hz,rfl⟩
   ·cases hx
  ·cases hx
 |ie sz len zero parts=>
  simp only[act,ab] at h ⊢;obtain⟨ps,hm,rfl⟩:=h;refine⟨ps,cO ?_ hm,rfl⟩;intro x y hx;split at hx
  ·split at hx
   ·rename_i hc;rw[if_pos hc];rw[ab] at hx ⊢;obtain⟨z,hz,rfl⟩:=hx;exact⟨z,cO (fun x y hx=>km S hx) hz,rfl⟩
   ·cases hx
  ·cases hx
 |load agg k a=>
  simp only[act] at h ⊢;split at h
  ·cases h
  ·split at h
   ·cases h
   ·rename_i hp;rw[mX S hp];exact h
 |store k a x=>
  simp only[act] at h ⊢;split at h
  ·rename_i cs0 _ _;split at h
   ·rename_i b hg;rw[S _ b hg];simp only;split at h
    ·rename_i hc;rw[if_pos hc];split at h
     ·rename_i cs hr hcs;rw[hr];have:(if b.bx=true then some cs0 else bB (cl o') cs0)=some cs:=by
       split at hcs
       ·rename_i hb;rw[if_pos hb];exact hcs
       ·rename_i hb;rw[if_neg hb];exact cO (fun x y hx=>km S hx) hcs
      rw[this];exact h
     ·cases h
    ·cases h
   ·cases h
  ·cases h
 |qV x=>
  simp only[act] at h ⊢;split at h
  ·split at h
   ·rename_i rows hr;rw[(eN S hr).1,(eN S hr).2];exact h
   ·cases h
  ·cases h
 |kG sz x lo hi=>
  simp only[act] at h ⊢;split at h
  ·split at h
   ·rename_i b l u hg h1 h2;rw[S _ b hg,h1,h2];exact h
   ·cases h
  ·cases h
 |lf sz bytes x y=>
  simp only[act] at h ⊢;split at h
  ·split at h
   ·rename_i ys b hy hg;rw[jz S hy,S _ b hg];exact h
   ·cases h
  ·cases h
 |qO sz x lo hi mx=>
  simp only[act] at h ⊢;split at h
  ·split at h
   ·split at h
    ·split at h
     ·rename_i hc;rw[if_pos hc];split at h
      ·rename_i hm;rw[if_pos hm];exact h
      ·rename_i hm;rw[if_neg hm];split at h
       ·exact h
       ·exact h
       ·split at h
        ·rename_i b hg;rw[S _ b hg];exact h
        ·cases h
       ·cases h
     ·cases h
    ·cases h
   ·cases h
  ·cases h
 |dB sz x ix=>
  simp only[act] at h ⊢;split at h
  ·split at h
   ·rename_i b hg;rw[S _ b hg];exact h
   ·cases h
  ·exact h
  ·cases h
 |app sz bytes x y=>
  simp only[act] at h ⊢;split at h
  ·split at h
   ·cases h
   ·rename_i ys hy;rw[jz S hy];simp only;split at h
    ·rename_i hb;rw[if_pos hb];split at h
     ·exact h
     ·split at h
      ·rename_i b hg;rw[S _ b hg];exact h
      ·cases h
     ·cases h
    ·cases h
  ·cases h
 |qU zero x=>
  simp only[act] at h ⊢;split at h
  ·exact h
  ·exact h
  ·split at h
   ·rename_i b hg;rw[S _ b hg];exact h
   ·cases h
  ·cases h
 |call f as lend thaw=>
  simp only[act] at h ⊢;split at h
  ·exact jf S h
  ·cases h
 |hJ x as=>
  simp only[act] at h ⊢;split at h
  ·exact jf S h
  ·cases h
 |_=>exact h
end Mx
namespace Mx
open Go
def cI(S:Nat→Bool):Nat→List dz→List (Nat×V)→List (Nat×V)
 |_,[],t=>t
 |i,e::es,t=>cI S (i+1) es (if S i then dw t e.dst e.v else t)
def cR(S:Nat→Bool):Nat→List dz→List (Nat×Ob)→List (Nat×Ob)
 |_,[],o=>o
 |i,e::es,o=>cR S (i+1) es (if S i then e.bf++o else o)
theorem fk(t:List (Nat×V))(d:Option Nat)(v:V)(x:Nat):get (dw t d v) x=if d=some x then some v else get t x:=by
 cases d with
 |none=>rfl
 |some d=>
  simp only[dw,get,af];by_cases h:x=d
  ·subst h;simp
  ·have:¬d=x:=fun e=>h e.symm
   simp[h,this]
theorem cS{α:Type}:∀{l:List (Nat×α)} {x:Nat},x∉l.map (·.1)→get l x=none
 |[],_,_=>rfl
 |(k,v)::l,x,h=>by
  simp only[aY,List.mem_cons,not_or] at h;simp only[get,if_neg h.1];exact cS h.2
theorem eW{S S':Nat→Bool}{x:Nat}:∀{es:List dz} {i:Nat} {t t':List (Nat×V)},(∀j e,es[j]? =some e→e.dst=some x→S (i+j)=S' (i+j))→get t x=get t' x→get (cI S i es t) x=get (cI S' i es t') x
 |[],i,t,t',_,h=>h
 |e::es,i,t,t',hs,h=>by
  simp only[cI];refine eW (fun j e' h1 h2=>by have:=hs (j+1) e' (by simpa using h1) h2;rw[show i+1+j=i+(j+1) from by omega];exact this) ?_;by_cases hd:e.dst=some x
  ·have:=hs 0 e (by simp) hd;simp only[Nat.add_zero] at this;rw[this];split
   ·simp[fk,hd]
   ·exact h
  ·have e1:∀t:List (Nat×V),get (dw t e.dst e.v) x=get t x:=fun t=>by rw[fk,if_neg hd]
   split<;>split<;>simp[e1,h]
theorem eX{S S':Nat→Bool}{x:Nat}:∀{es:List dz} {i:Nat} {t t':List (Nat×Ob)},(∀j e,es[j]? =some e→x∈e.W→S (i+j)=S' (i+j))→get t x=get t' x→get (cR S i es t) x=get (cR S' i es t') x
 |[],i,t,t',_,h=>h
 |e::es,i,t,t',hs,h=>by
  simp only[cR];refine eX (fun j e' h1 h2=>by have:=hs (j+1) e' (by simpa using h1) h2;rw[show i+1+j=i+(j+1) from by omega];exact this) ?_;by_cases hd:x∈e.W
  ·have:=hs 0 e (by simp) hd;simp only[Nat.add_zero] at this;rw[this];split
   ·simp[get_append,h]
   ·exact h
  ·have e1:∀t:List (Nat×Ob),get (e.bf++t) x=get t x:=fun t=>by rw[get_append,cS hd];simp
   split<;>split<;>simp[e1,h]
theorem lg{S S':Nat→Bool}:∀{es:List dz} {i:Nat} {t:List (Nat×V)},(∀j,j<es.length→S (i+j)=S' (i+j))→cI S i es t=cI S' i es t
 |[],_,_,_=>rfl
 |e::es,i,t,h=>by
  simp only[cI];have h0:=h 0 (by simp);simp only[Nat.add_zero] at h0;rw[h0];exact lg fun j hj=>by rw[show i+1+j=i+(j+1) from by omega];exact h (j+1) (by simp;omega)
theorem lj{S S':Nat→Bool}:∀{es:List dz} {i:Nat} {t:List (Nat×Ob)},(∀j,j<es.length→S (i+j)=S' (i+j))→cR S i es t=cR S' i es t
 |[],_,_,_=>rfl
 |e::es,i,t,h=>by
  simp only[cR];have h0:=h 0 (by simp);simp only[Nat.add_zero] at h0;rw[h0];exact lj fun j hj=>by rw[show i+1+j=i+(j+1) from by omega];exact h (j+1) (by simp;omega)
def cu(S:Nat→Bool)(k:Nat):Nat→Bool:=fun j=>S j||j==k
theorem lh{S:Nat→Bool}{x:Nat}:∀{es:List dz} {i k:Nat} {e:dz} {t:List (Nat×V)},i≤k→es[k-i]? =some e→(∀j e',es[j]? =some e'→S (i+j)=true→k<i+j→e.dst=some x→e'.dst≠some x)→S k=false→
  get (cI (cu S k) i es t) x=get (dw (cI S i es t) e.dst e.v) x
 |[],i,k,e,t,hk,he,_,_=>by simp at he
 |f::es,i,k,e,t,hk,he,hw,hS=>by
  simp only[cI];by_cases hik:i=k
  ·subst hik;simp at he;subst he;have h1:cu S i i=true:=by simp[cu]
   rw[h1,hS];simp only[if_true,av,if_false];rw[fk];by_cases hd:f.dst=some x
   ·rw[if_pos hd];have:get (cI (fun _=>false) (i+1) es (dw t f.dst f.v)) x=some f.v:=by
     have z:∀(es:List dz) (i:Nat) (t:List (Nat×V)),cI (fun _=>false) i es t=t:=by
      intro es
      induction es with
      |nil=>intro i t;rfl
      |cons e es ih=>intro i t;simp only[cI];exact ih _ _
     rw[z,fk,if_pos hd]
    rw[←this];refine eW (fun j e' h1 h2=> ?_) rfl;cases hq:cu S i (i+1+j) with
    |false=>rfl
    |true=>
     exfalso;have hq':S (i+1+j)=true:=by simp only[cu,Bool.or_eq_true,beq_iff_eq] at hq;rcases hq with q|q;exact q;omega
     exact hw (j+1) e' (by simpa using h1) (by rw[show i+(j+1)=i+1+j from by omega];exact hq') (by omega) hd h2
   ·rw[if_neg hd];exact eW (fun j e' h1 h2=>by have:¬(i+1+j=i):=(by omega);simp[cu,this]) (by rw[fk,if_neg hd])
  ·have h1:cu S k i=S i:=by have:¬(i=k):=hik;simp[cu,this]
   rw[h1];refine lh (by omega) ?_ (fun j e' q1 q2 q3 q4=>hw (j+1) e' (by simpa using q1) (by rw[show i+(j+1)=i+1+j from by omega];exact q2) (by omega) q4) hS;rw[show k-i=(k-(i+1))+1 from by omega] at he;simpa using he
theorem lk{S:Nat→Bool}{x:Nat}:∀{es:List dz} {i k:Nat} {e:dz} {t:List (Nat×Ob)},i≤k→es[k-i]? =some e→(∀j e',es[j]? =some e'→S (i+j)=true→k<i+j→x∈e.W→x∉e'.W)→S k=false→
  get (cR (cu S k) i es t) x=get (e.bf++cR S i es t) x
 |[],i,k,e,t,hk,he,_,_=>by simp at he
 |f::es,i,k,e,t,hk,he,hw,hS=>by
  simp only[cR];by_cases hik:i=k
  ·subst hik;simp at he;subst he;have h1:cu S i i=true:=by simp[cu]
   rw[h1,hS];simp only[if_true,av,if_false];by_cases hd:x∈f.W
   ·have z:∀(es:List dz) (i:Nat) (t:List (Nat×Ob)),cR (fun _=>false) i es t=t:=by
     intro es
     induction es with
     |nil=>intro i t;rfl
     |cons e es ih=>intro i t;simp only[cR];exact ih _ _
    have hno:∀(S':Nat→Bool),(∀j,S' (i+1+j)=S (i+1+j))→∀t:List (Nat×Ob),get (cR S' (i+1) es t) x=get t x:=by
     intro S' hS' t;have:get (cR (fun _=>false) (i+1) es t) x=get t x:=by rw[z]
     rw[←this];refine eX (fun j e' h1 h2=> ?_) rfl;cases hq:S' (i+1+j) with
     |false=>rfl
     |true=>
      exfalso;rw[hS'] at hq;exact hw (j+1) e' (by simpa using h1) (by rw[show i+(j+1)=i+1+j from by omega];exact hq) (by omega) hd h2
    rw[hno (cu S i) (fun j=>by have:¬(i+1+j=i):=(by omega);simp[cu,this]),get_append,get_append,hno S (fun _=>rfl)]
   ·rw[get_append,cS hd];simp only[Option.none_or];exact eX (fun j e' h1 h2=>by have:¬(i+1+j=i):=(by omega);simp[cu,this]) (by rw[get_append,cS hd];simp)
  ·have h1:cu S k i=S i:=by have:¬(i=k):=hik;simp[cu,this]
   rw[h1];refine lk (by omega) ?_ (fun j e' q1 q2 q3 q4=>hw (j+1) e' (by simpa using q1) (by rw[show i+(j+1)=i+1+j from by omega];exact q2) (by omega) q4) hS;rw[show k-i=(k-(i+1))+1 from by omega] at he;simpa using he
theorem gN{cf:ay}{n:Nat}:∀{ms:List dj} {as:List (List Nat)} {i:Nat} {t:List (Nat×V)} {o:List (Nat×Ob)} {acc:List (Nat×dz)} {r:List (Nat×V)×List (Nat×Ob)},bR cf n i ms as t o acc=some r→
  ∃es:List dz,es.length=ms.length∧r=(cI (fun _=>true) i es t,cR (fun _=>true) i es o)∧
   ∀j m,ms[j]? =some m→∃a e,as[j]? =some a∧es[j]? =some e∧di cf n (i+j) m (cI (fun q=>decide (q<i+j)) i es t) (cR (fun q=>decide (q<i+j)) i es o)=some e∧
    (∀x∈acc,a.contains x.1=true∨e.apart x.2=true)∧(∀j' e',j'<j→es[j']? =some e'→a.contains (i+j')=true∨e.apart e'=true)
 |[],as,i,t,o,acc,r,h=>by
  simp only[bR,af] at h;subst h;exact⟨[],rfl,rfl,fun j m hj=>by simp at hj⟩
 |m::ms,[],i,t,o,acc,r,h=>by simp[bR] at h
 |m::ms,a::as,i,t,o,acc,r,h=>by
  simp only[bR] at h;split at h
  ·rename_i e he;split at h
   ·rename_i hc;obtain⟨es,h1,h2,h3⟩:=gN h;have z:∀(es:List dz) (k:Nat) (t:List (Nat×V)),i≤k→cI (fun q=>decide (q<i)) k es t=t:=by
     intro es
     induction es with
     |nil=>intro k t _;rfl
     |cons e es ih=>intro k t hk;simp only[cI];rw[if_neg (by simp;omega)];exact ih _ _ (by omega)
    have z2:∀(es:List dz) (k:Nat) (t:List (Nat×Ob)),i≤k→cR (fun q=>decide (q<i)) k es t=t:=by
     intro es
     induction es with
     |nil=>intro k t _;rfl
     |cons e es ih=>intro k t hk;simp only[cR];rw[if_neg (by simp;omega)];exact ih _ _ (by omega)
    refine⟨e::es,by simp[h1], ?_, ?_⟩
    ·rw[h2];simp only[cI,cR,if_true]
    ·intro j m' hj;cases j with
     |zero=>
      simp at hj;subst hj;refine⟨a,e,rfl,rfl, ?_, ?_,fun j' e' h=>by omega⟩
      ·rw[Nat.add_zero,z _ _ _ (Nat.le_refl _),z2 _ _ _ (Nat.le_refl _)];exact he
      ·intro x hx;simp only[au,Bool.or_eq_true] at hc;exact hc x hx
     |succ j=>
      obtain⟨a',e',q1,q2,q3,q4,q5⟩:=h3 j m' (by simpa using hj);refine⟨a',e',by simpa using q1,by simpa using q2, ?_,fun x hx=>q4 x (aV _ hx), ?_⟩
      ·simp only[cI,cR];rw[if_pos (by simp),if_pos (by simp),show i+(j+1)=i+1+j from by omega];exact q3
      ·intro j' e2 hj' he2;cases j' with
       |zero=>
        simp at he2;subst he2;exact q4 (i,e) (a8 ..)
       |succ j'=>
        have:=q5 j' e2 (by omega) (by simpa using he2);rw[show i+(j'+1)=i+1+j' from by omega];exact this
   ·cases h
  ·cases h
def ov(m:dj):List Nat:=match m.guard with
 |some (g,_)=>[g]
 |none=>[]
def iO(m:dj):List Nat:=m.op.tmps++ov m
def fK(m m':dj):Bool:=(match m.dst with|some d=> !(iO m').contains d&&(m'.dst !=some d)|none=>true)&&(match m'.dst with|some d=> !(iO m).contains d|none=>true)
def fE(P:Program)(F:Nat→FuncId)(N:Nat)(xs:Array Oper)(ms:List dj)(as:List (List Nat))(i:Nat):Bool:=
 match ms[i]?,as[i]?,xs[i]? with
 |some m,some a,some x=>
  ml P F N xs m x&&a.all (fun j=>decide (j<i))&&a.all (fun j=>x.after.any fun e=>Region.binds .any e&&(e.on==j||(match as[e.on]? with|some b=>b.contains j|none=>false)))&&
  x.after.all (fun e=> !Region.binds .any e||decide (e.on<i))&&(List.range i).all fun j=>a.contains j||(match ms[j]? with|some m'=>fK m m'|none=>false)
 |_,_,_=>false
def n5(P:Program)(F:Nat→FuncId)(N:Nat)(xs:Array Oper)(ms:List dj)(as:List (List Nat)):Bool:=
 P.follows .mixedOrders&&ms.length==xs.size&&(List.range ms.length).all (fE P F N xs ms as)
def NS(nb:Nat)(S:Nat→Bool)(k:Nat):Prop:=k<nb∨∃i,S i=true∧nb+16*i≤k∧k<nb+16*i+16
theorem qR{nb:Nat}{S:Nat→Bool}{i:Nat}(h:S i=false):Fr (NS nb S) (nb+16*i) (NS nb (cu S i)):=by
 refine⟨?_, ?_, ?_⟩
 ·rintro k h1 h2 (h3|⟨j,h3,h4,h5⟩)
  ·omega
  ·have:j=i:=by omega
   subst this;rw[h] at h3;cases h3
 ·rintro k (h3|⟨j,h3,h4,h5⟩)
  ·exact .inl h3
  ·exact .inr ⟨j,by simp[cu,h3],h4,h5⟩
 ·intro k h1 h2;exact .inr ⟨i,by simp[cu],h1,by omega⟩
theorem mz{cf:ay}{n i:Nat}{m:dj}{t:List (Nat×V)}{o:List (Nat×Ob)}{e:dz}(h:di cf n i m t o=some e):e.dst=m.dst:=by
 unfold di at h;split at h
 ·rw[ab] at h;obtain⟨r,_,rfl⟩:=h;rfl
 ·cases h;rfl
 ·cases h
variable {P:Program} {F:Nat→FuncId} {Pr:Nat→Prop} {w0:World} {lb:Lb} {N:Nat}
theorem Rel.od{E:Nat→Option Loc}{n n':Nat→Prop}{t:List (Nat×V)}{o:List (Nat×Ob)}{a:Act}{w:World}(R:Rel F Pr w0 lb N E n t o a w)(h:∀k,n k→n' k):Rel F Pr w0 lb N E n' t o a w:=R.same rfl rfl rfl rfl h
theorem Rel.r5{E:Nat→Option Loc}{n:Nat→Prop}{t t':List (Nat×V)}{o o':List (Nat×Ob)}{a:Act}{w:World}(R:Rel F Pr w0 lb N E n t o a w)(ht:∀x,get t' x=get t x)(ho:∀x,get o' x=get o x):Rel F Pr w0 lb N E n t' o' a w:=
 R.sub (fun d v h=>by rw[←ht];exact h) fun id ob h=>⟨ob,by rw[←ho];exact h,rfl,rfl,rfl,rfl,fun h=>h⟩
section
variable {cf:ay} {xs:Array Oper} {ms:List dj} {as:List (List Nat)} {nb:Nat} {es:List dz} {t0:List (Nat×V)} {o0:List (Nat×Ob)}
theorem nk(hok:(List.range ms.length).all (fE P F N xs ms as)=true)
  (hes:∀j m,ms[j]? =some m→∃a e,as[j]? =some a∧es[j]? =some e∧di cf nb j m (cI (fun q=>decide (q<j)) 0 es t0) (cR (fun q=>decide (q<j)) 0 es o0)=some e∧(∀j' e',j'<j→es[j']? =some e'→a.contains j'=true∨e.apart e'=true))
  (hlen:es.length=ms.length) {S:Nat→Bool} {i:Nat} {m:dj} {e:dz} (hi:ms[i]? =some m) (he:es[i]? =some e) (hS:S i=false)
  (hanc:∀a,as[i]? =some a→∀j∈a,S j=true) (hdown:∀j a,as[j]? =some a→S j=true→∀k∈a,S k=true):
  (∀x∈iO m,get (cI S 0 es t0) x=get (cI (fun q=>decide (q<i)) 0 es t0) x)∧
  (∀x∈e.T,get (cR S 0 es o0) x=get (cR (fun q=>decide (q<i)) 0 es o0) x)∧
  (∀x,get (cI (cu S i) 0 es t0) x=get (dw (cI S 0 es t0) e.dst e.v) x)∧
  (∀x,get (cR (cu S i) 0 es o0) x=get (e.bf++cR S 0 es o0) x):=by
 have one:∀j,j<ms.length→fE P F N xs ms as j=true:=by
  intro j hj;simp only[au,List.mem_range] at hok;exact hok j hj
 have two:∀(j k:Nat) (mj:dj) (ek' ej:dz),j<k→ms[k]? =some mj→es[k]? =some ek'→es[j]? =some ej→(∃a,as[k]? =some a∧j∈a)∨(ek'.apart ej=true∧∃mj',ms[j]? =some mj'∧fK mj mj'=true):=by
  intro j k mk ek ej hjk hk hek hej;obtain⟨a,e',q1,q2,_,q4⟩:=hes k mk hk;rw[hek] at q2;cases q2;by_cases hc:a.contains j=true
  ·exact .inl ⟨a,q1,by simpa using hc⟩
  ·refine .inr ⟨(q4 j ej hjk hej).resolve_left hc, ?_⟩;have:=one k (List.getElem?_eq_some_iff.1 hk).1;unfold fE at this;rw[hk,q1] at this;split at this
   ·rename_i m1 a1 x1 e1 e2 e3;cases e1;cases e2;simp only[ae,au,List.mem_range,Bool.or_eq_true] at this;have h2:=(this.2 j hjk).resolve_left hc;split at h2
    ·rename_i m' hm';exact⟨m',hm',h2⟩
    ·cases h2
   ·cases this
 have msOf:∀(j:Nat) (ej:dz),es[j]? =some ej→∃mj,ms[j]? =some mj∧ej.dst=mj.dst:=by
  intro j ej hj;have hlt:j<ms.length:=by rw[←hlen];exact(List.getElem?_eq_some_iff.1 hj).1
  obtain⟨a,e',_,q2,q3,_⟩:=hes j ms[j] (by simp[hlt]);rw[hj] at q2;cases q2;exact⟨ms[j],by simp[hlt],mz q3⟩
 have side:∀(j:Nat) (ej:dz),es[j]? =some ej→j≠i→(S j=decide (j<i))∨(∃mj,ms[j]? =some mj∧ej.dst=mj.dst∧((j<i∧e.apart ej=true∧fK m mj=true)∨(i<j∧ej.apart e=true∧fK mj m=true))):=by
  intro j ej hj hne;obtain⟨mj,hmj,hd⟩:=msOf j ej hj;rcases Nat.lt_or_gt_of_ne hne with h|h
  ·rcases two j i m e ej h hi he hj with⟨a,h1,h2⟩|⟨h1,mj',h2,h3⟩
   ·left;rw[hanc a h1 j h2];simp[h]
   ·rw[hmj] at h2;cases h2;exact .inr ⟨mj,hmj,hd,.inl ⟨h,h1,h3⟩⟩
  ·rcases two i j mj ej e h hmj hj he with⟨a,h1,h2⟩|⟨h1,mi',h2,h3⟩
   ·left;have:S j=false:=by
     cases hq:S j with
     |false=>rfl
     |true=>have:=hdown j a h1 hq i h2;rw[hS] at this;cases this
    rw[this];simp;omega
   ·rw[hi] at h2;cases h2;exact .inr ⟨mj,hmj,hd,.inr ⟨h,h1,h3⟩⟩
 have hed:e.dst=m.dst:=by
  obtain⟨m',h1,h2⟩:=msOf i e he;rw[hi] at h1;cases h1;exact h2
 refine⟨?_, ?_, ?_, ?_⟩
 ·intro x hx;refine eW (fun j ej hj hd=> ?_) rfl;rw[Nat.zero_add];by_cases hne:j=i
  ·subst hne;rw[hS];simp
  ·rcases side j ej hj hne with h|⟨mj,_,hdj,⟨_,_,h⟩|⟨_,_,h⟩⟩
   ·exact h
   ·exfalso;rw[hdj] at hd;simp only[fK,hd,ae,Bool.not_eq_true'] at h;have:=h.2;simp at this;exact this hx
   ·exfalso;rw[hdj] at hd;simp only[fK,hd,ae,Bool.not_eq_true'] at h;have:=h.1.1;simp at this;exact this hx
 ·intro x hx;refine eX (fun j ej hj hd=> ?_) rfl;rw[Nat.zero_add];by_cases hne:j=i
  ·subst hne;rw[hS];simp
  ·rcases side j ej hj hne with h|⟨mj,_,hdj,⟨_,h,_⟩|⟨_,h,_⟩⟩
   ·exact h
   ·exfalso;simp only[dz.apart,ae,au,Bool.not_eq_true'] at h;have:=h.2 x hd;simp at this;exact this hx
   ·exfalso;simp only[dz.apart,ae,au,Bool.not_eq_true'] at h;have:=(h.1 x hd).1;simp at this;exact this hx
 ·intro x;refine lh (Nat.zero_le _) (by simpa using he) ?_ hS;intro j ej hj hSj hlt hd hdj;rw[Nat.zero_add] at hSj hlt;rcases side j ej hj (by omega) with h|⟨mj,_,hdj',⟨h0,_,h⟩|⟨_,_,h⟩⟩
  ·rw[hSj] at h;simp at h;omega
  ·omega
  ·rw[hdj'] at hdj;rw[hed] at hd;simp[fK,hdj,hd] at h
 ·intro x;refine lk (Nat.zero_le _) (by simpa using he) ?_ hS;intro j ej hj hSj hlt hd hdj;rw[Nat.zero_add] at hSj hlt;rcases side j ej hj (by omega) with h|⟨mj,_,hdj',⟨h0,_,h⟩|⟨_,h,_⟩⟩
  ·rw[hSj] at h;simp at h;omega
  ·omega
  ·simp only[dz.apart,ae,au,Bool.not_eq_true'] at h;have:=(h.1 x hdj).2;simp at this;exact this hd
end
end Mx
namespace Mx
open Go
variable {P:Program} {F:Nat→FuncId} {Pr:Nat→Prop} {w0:World} {lb:Lb} {N:Nat}
section
variable {cf:ay} {xs:Array Oper} {ms:List dj} {as:List (List Nat)} {nb:Nat} {es:List dz} {t0:List (Nat×V)} {o0:List (Nat×Ob)}
theorem gn{α:Type}(ks:List Nat)(l:List (Nat×α)){x:Nat}{v:α}(h:get (keep ks l) x=some v):x∈ks:=by
 induction ks with
 |nil=>simp[keep,get] at h
 |cons k ks ih=>
  simp only[keep,List.filterMap_cons] at h;cases hk:get l k with
  |none=>simp only[hk,Option.map_none] at h;exact aV _ (ih h)
  |some u=>
   simp only[hk,cp,get] at h;split at h
   ·rename_i e;subst e;exact a8 ..
   ·exact aV _ (ih h)
theorem mW{L:Array Bool}(hL:L.size=xs.size)(hsz:ms.length=xs.size)(hok:(List.range ms.length).all (fE P F N xs ms as)=true)(h:Region.ready .any xs L=[]):∀i,i<xs.size→L.getD i false=true:=by
 intro i
 induction i using Nat.strongRecOn with
 |_ i ih=>
  intro hi;cases hq:L.getD i false with
  |true=>rfl
  |false=>
   exfalso;have hone:fE P F N xs ms as i=true:=by
    simp only[au,List.mem_range] at hok;exact hok i (by omega)
   unfold fE at hone;split at hone
   ·rename_i m a x e1 e2 e3;simp only[ae] at hone;have hbef:=hone.1.2;have:i∈Region.ready .any xs L:=by
     rw[mem_ready];refine⟨?_,x,e3,fun e he hb=> ?_⟩
     ·have hlt:i<L.size:=by omega
      simp[hlt] at hq ⊢;exact hq
     ·rw[Array.all_eq_true_iff_forall_mem] at hbef;have:=hbef e he;rw[hb] at this;simp at this;exact ih e.on this (by omega)
    rw[h] at this;simp at this
   ·cases hone
theorem oO(hcf:fp P F cf)(hsz:ms.length=xs.size)(hok:(List.range ms.length).all (fE P F N xs ms as)=true)
  (hes:∀j m,ms[j]? =some m→∃a e,as[j]? =some a∧es[j]? =some e∧di cf nb j m (cI (fun q=>decide (q<j)) 0 es t0) (cR (fun q=>decide (q<j)) 0 es o0)=some e∧(∀j' e',j'<j→es[j']? =some e'→a.contains j'=true∨e.apart e'=true))
  (hlen:es.length=ms.length) {Q:Exit→Act→World→Prop}
  (hq:∀E' a' w',Rel F Pr w0 lb N E' (fun k=>k<nb+16*ms.length) (cI (fun _=>true) 0 es t0) (cR (fun _=>true) 0 es o0) a' w'→Q .normal a' w'):
  ∀(fuel:Nat) (L:Array Bool) {E:Nat→Option Loc} {a:Act} {w:World},L.size=xs.size→((List.range xs.size).filter fun i=> !L.getD i false).length≤fuel→
   (∀i b,as[i]? =some b→L.getD i false=true→∀j∈b,L.getD j false=true)→
   Rel F Pr w0 lb N E (NS nb fun j=>L.getD j false) (cI (fun j=>L.getD j false) 0 es t0) (cR (fun j=>L.getD j false) 0 es o0) a w→wpAny P .any xs Q fuel L a w:=by
 have done:∀(L:Array Bool) {E:Nat→Option Loc} {a:Act} {w:World},L.size=xs.size→(∀i,i<xs.size→L.getD i false=true)→
   Rel F Pr w0 lb N E (NS nb fun j=>L.getD j false) (cI (fun j=>L.getD j false) 0 es t0) (cR (fun j=>L.getD j false) 0 es o0) a w→Q .normal a w:=by
  intro L E a w hL hall R;have e1:cI (fun j=>L.getD j false) 0 es t0=cI (fun _=>true) 0 es t0:=lg fun j hj=>by rw[Nat.zero_add];exact hall j (by omega)
  have e2:cR (fun j=>L.getD j false) 0 es o0=cR (fun _=>true) 0 es o0:=lj fun j hj=>by rw[Nat.zero_add];exact hall j (by omega)
  rw[e1,e2] at R;refine hq E a w (R.od ?_);rintro k (h|⟨i,h1,h2,h3⟩)
  ·omega
  ·have:i<L.size:=by
    rcases Nat.lt_or_ge i L.size with q|q
    ·exact q
    ·simp[Array.getElem?_eq_none q] at h1
   omega
 intro fuel
 induction fuel with
 |zero=>
  intro L E a w hL hcount hdown R;have hall:∀i,i<xs.size→L.getD i false=true:=by
   intro i hi;cases hx:L.getD i false with
   |true=>rfl
   |false=>
    exfalso;have:i∈(List.range xs.size).filter fun i=> !L.getD i false:=by
     rw[List.mem_filter,List.mem_range];exact⟨hi,by rw[hx];rfl⟩
    have hlen0:=List.length_pos_of_mem this;omega
  refine⟨?_,done L hL hall R⟩;cases hr:Region.ready .any xs L with
  |nil=>rfl
  |cons i rest=>
   exfalso;have hi:i∈Region.ready .any xs L:=by rw[hr];exact a8 ..
   rw[mem_ready] at hi;obtain⟨h0,o,ho,_⟩:=hi;have hlt:i<xs.size:=(Array.getElem?_eq_some_iff.1 ho).1;have h1:=hall i hlt;have hlt2:i<L.size:=by omega
   simp[hlt2] at h0 h1;rw[h0] at h1;cases h1
 |succ fuel ih=>
  intro L E a w hL hcount hdown R;refine⟨fun hr=>done L hL (mW hL hsz hok hr) R, ?_⟩;intro i hi;rw[mem_ready] at hi;obtain⟨h0,x,hx,hedges⟩:=hi;have hlt:i<xs.size:=(Array.getElem?_eq_some_iff.1 hx).1;have hlt2:i<L.size:=by omega
  have hSi:L.getD i false=false:=by simp[hlt2] at h0 ⊢;exact h0
  have hone:fE P F N xs ms as i=true:=by
   simp only[au,List.mem_range] at hok;exact hok i (by omega)
  unfold fE at hone;split at hone;rotate_left
  ·cases hone
  rename_i m b x' hm hb hx';rw[hx] at hx';cases hx';simp only[ae] at hone;obtain⟨⟨⟨⟨hmop,hlt0⟩,hjust⟩,hbef⟩,_⟩:=hone;obtain⟨b',e,hb',he,hent,_⟩:=hes i m hm;have hanc:∀a,as[i]? =some a→∀j∈a,L.getD j false=true:=by
   intro a ha j hj;rw[hb] at ha;cases ha;simp only[au] at hjust;have:=hjust j hj;rw[←Array.any_toList,List.any_eq_true] at this;obtain⟨ed,hed,hed2⟩:=this;have hed:=Array.mem_def.2 hed;simp only[ae,Bool.or_eq_true,beq_iff_eq] at hed2;have hon:=hedges ed hed hed2.1;rcases hed2.2 with q|q
   ·rw[←q];exact hon
   ·split at q
    ·rename_i c hc;exact hdown ed.on c hc hon j (by simpa using q)
    ·cases q
  obtain⟨k1,k2,k3,k4⟩:=nk hok hes hlen hm he hSi hanc (fun j a ha hj k hk=>hdown j a ha hj k hk);have hS':(fun j=>(L.setIfInBounds i true).getD j false)=cu (fun j=>L.getD j false) i:=by
   funext j;simp only[cu];by_cases hji:j=i
   ·subst hji;simp[hlt2]
   ·rw[getD_set_ne false (fun q=>hji q.symm)];have:(j==i)=false:=by simp[hji]
    rw[this,Bool.or_false]
  simp only[ml,ae,beq_iff_eq] at hmop;obtain⟨⟨⟨hdst,hN⟩,hg⟩,hact⟩:=hmop;have hed:=mz hent;have hN':∀d,e.dst=some d→d<N:=by
   intro d hd;rw[hed,hdst] at hd;rw[hd] at hN;simpa using hN
  have next:∀E' a' w',Rel F Pr w0 lb N E' (NS nb (cu (fun j=>L.getD j false) i)) (dw (cI (fun j=>L.getD j false) 0 es t0) e.dst e.v) (e.bf++cR (fun j=>L.getD j false) 0 es o0) a' w'→wpAny P .any xs Q fuel (L.setIfInBounds i true) a' w':=by
   intro E' a' w' R';refine ih (L.setIfInBounds i true) (by simpa using hL) ?_ ?_ ?_ (E:=E')
   ·have hsub:((List.range xs.size).filter fun j=> !(L.setIfInBounds i true).getD j false).length<((List.range xs.size).filter fun j=> !L.getD j false).length:=by
     have e1:((List.range xs.size).filter fun j=> !(L.setIfInBounds i true).getD j false)=((List.range xs.size).filter fun j=> !L.getD j false).filter fun j=> !(j==i):=by
      rw[List.filter_filter];congr 1;funext j;have:=congrFun hS' j;rw[this];simp[cu,Bool.and_comm]
     rw[e1];have hmem:i∈(List.range xs.size).filter fun j=> !L.getD j false:=by
      rw[List.mem_filter,List.mem_range];exact⟨hlt,by rw[hSi];rfl⟩
     exact List.length_filter_lt_length_iff_exists.2 ⟨i,hmem,by simp⟩
    omega
   ·intro j c hc hj k hk;have hj':cu (fun j=>L.getD j false) i j=true:=by rw[←hS'];exact hj
    have:cu (fun j=>L.getD j false) i k=true:=by
     simp only[cu,Bool.or_eq_true,beq_iff_eq] at hj' ⊢;rcases hj' with q|q
     ·exact .inl (hdown j c hc q k hk)
     ·subst q;exact .inl (hanc c hc k hk)
    rw[←hS'] at this;exact this
   ·rw[hS'];exact R'.r5 k3 k4
  show wpOp P xs Q i (wpAny P .any xs Q fuel (L.setIfInBounds i true)) a w;unfold wpOp;rw[hx];simp only;have hwant:wanted (cI (fun j=>L.getD j false) 0 es t0) m.guard=wanted (cI (fun q=>decide (q<i)) 0 es t0) m.guard:=by
   cases hgm:m.guard with
   |none=>rfl
   |some gb=>
    obtain⟨g,bb⟩:=gb;simp only[wanted];rw[k1 g (by simp[iO,ov,hgm])]
  unfold di at hent;split at hent
  ·rename_i hw;rw[if_pos (fq R hg (by rw[hwant];exact hw))];rw[ab] at hent;obtain⟨r,hr,rfl⟩:=hent;have hr2:act cf (nb+16*i) (m.dst.getD 0) (cI (fun j=>L.getD j false) 0 es t0) (cR (fun j=>L.getD j false) 0 es o0) m.op=some (r.1,r.2):=by
    rw[sc (t:=cI (fun q=>decide (q<i)) 0 es t0) (fun k hk=>k1 k (by simp[iO,hk]))];refine qn (fun id ob hg=> ?_) hr;rw[k2 id (gn _ _ hg)];exact jb _ _ hg
   refine .inl (oZ R (qR hSi) hcf hact hr2 ?_);intro E' val w' R' hv;have z:=next E' _ w' (R'.put (dst:=m.dst) (by simpa using hN') hv)
   rw[hdst] at z;exact z
  ·rename_i hw;rw[if_neg (by rw[fq R hg (by rw[hwant];exact hw)];simp)];cases hent;have R2:=(R.od (qR hSi).cU).put (dst:=m.dst) (v:= .undef) (val:=undef) (by simpa using hN') (.undef _ (by intro b h;cases h));have z:=next E _ w R2
   rw[hdst] at z;exact z
  ·cases hent
end
end Mx
namespace Mx
open Go
variable {P:Program} {F:Nat→FuncId} {Pr:Nat→Prop} {w0:World} {lb:Lb} {N:Nat} {E:Nat→Option Loc} {n:Nat→Prop} {t:List (Nat×V)} {o:List (Nat×Ob)} {a:Act} {w:World}
def gD(P:Program)(F:Nat→FuncId)(N:Nat)(ops:Array Oper):List dj→List Oper→Bool
 |[],[]=>true
 |m::ms,x::xs=>ml P F N ops m x&&gD P F N ops ms xs
 |_,_=>false
theorem p0(nb i:Nat):Fr (fun k=>k<nb+16*i) (nb+16*i) (fun k=>k<nb+16*(i+1)):=
 ⟨fun k h1 h2 h3=>by omega,fun k h=>by omega,fun k h1 h2=>by omega⟩
theorem iF{cf:ay}(hcf:fp P F cf){ops:Array Oper}{Q:Exit→Act→World→Prop}{nb:Nat}:∀{i:Nat} {ms:List dj} {xs:List Oper} {E:Nat→Option Loc} {t:List (Nat×V)} {o:List (Nat×Ob)} {a:Act} {w:World} {t':List (Nat×V)} {o':List (Nat×Ob)},
  Rel F Pr w0 lb N E (fun k=>k<nb+16*i) t o a w→gD P F N ops ms xs=true→steps cf nb i ms t o=some (t',o')→
  (∀E' a' w',Rel F Pr w0 lb N E' (fun k=>k<nb+16*(i+ms.length)) t' o' a' w'→Q .normal a' w')→wpList P ops Q xs a w
 |i,[],[],E,t,o,a,w,t',o',R,_,h,hq=>by
  simp only[steps,af,ah] at h;obtain⟨rfl,rfl⟩:=h;exact hq E a w R
 |i,m::ms,x::xs,E,t,o,a,w,t',o',R,hok,h,hq=>by
  simp only[gD,ml,ae,beq_iff_eq] at hok;obtain⟨⟨⟨⟨hdst,hN⟩,hg⟩,hact⟩,hrest⟩:=hok;have hN':∀d,x.dst=some d→d<N:=by
   intro d hd;rw[hd] at hN;simpa using hN
  simp only[steps] at h;split at h
  ·rename_i t1 o1 hs;have hq':∀E' a' w',Rel F Pr w0 lb N E' (fun k=>k<nb+16*(i+1+ms.length)) t' o' a' w'→Q .normal a' w':=by
    intro E' a' w' R';exact hq E' a' w' (by rw[ak,show i+(ms.length+1)=i+1+ms.length from by omega];exact R')
   unfold wpList;unfold step at hs;split at hs
   ·rename_i hw;rw[if_pos (fq R hg hw)];simp only[ab,ah] at hs;obtain⟨r,hr,rfl,rfl⟩:=hs;refine .inl (oZ R (p0 nb i) hcf hact hr ?_);intro E' val w' R' hv;refine iF hcf (i:=i+1) (R'.put (dst:=m.dst) (by rw[hdst];exact hN') hv) hrest h hq'|>fun z=> ?_
    rw[hdst] at z;exact z
   ·rename_i hw;rw[if_neg (by rw[fq R hg hw];simp)];simp only[af,ah] at hs;obtain⟨rfl,rfl⟩:=hs;have R2:=(R.same rfl rfl rfl rfl (n':=fun k=>k<nb+16*(i+1)) (fun k h=>by omega)).put (dst:=m.dst) (v:= .undef) (val:=undef) (by rw[hdst];exact hN') (.undef _ (by intro b h;cases h));have z:=iF hcf (i:=i+1) R2 hrest h hq';rw[hdst] at z;exact z
   ·cases hs
  ·cases h
 |_,[],_::_,_,_,_,_,_,_,_,_,hok,_,_=>by simp[gD] at hok
 |_,_::_,[],_,_,_,_,_,_,_,_,hok,_,_=>by simp[gD] at hok
def f_(P:Program)(F:Nat→FuncId)(N:Nat):C→Code→Bool
 | .skip,.skip=>true
 | .aD ops _ _,.region _ xs false=>gD P F N xs ops xs.toList
 | .gC ops anc _ _,.region _ xs true=>n5 P F N xs ops anc
 | .seq a b,.seq c d=>f_ P F N a c&&f_ P F N b d
 | .cond x a b,.cond y c d=>okO F x y&&f_ P F N a c&&f_ P F N b d
 | .block id a,.block id' c=>id==id'&&f_ P F N a c
 | .loop a,.loop c=>f_ P F N a c
 | .exit id,.exit id'=>id==id'
 | .ret,.ret=>true
 | .shut _ a,c=>f_ P F N a c
 |_,_=>false
def oB:Out→Exit
 | .normal=> .normal
 | .exit id=> .exit id
 | .ret=> .ret
theorem rv{cf:ay}(hcf:fp P F cf)(k:Nat):∀(c:C) (c':Code) (_hs:f_ P F N c c'=true) {Q:Exit→Act→World→Prop} {s s':St} {out:Out} {E:Nat→Option Loc} {a:Act} {w:World},
  Rel F Pr w0 lb N E (fun k=>k<s.n) s.t s.o a w→bH cf k c s=some (out,s')→
  (∀E' a' w',Rel F Pr w0 lb N E' (fun k=>k<s'.n) s'.t s'.o a' w'→Q (oB out) a' w')→c'.wp P Q a w:=by
 intro c
 induction c with
 |skip=>
  intro c' hs Q s s' out E a w R h hq;cases c'<;>first|(simp[f_] at hs;done)|skip
  simp only[bH,af,ah] at h;obtain⟨rfl,rfl⟩:=h;exact wp_skip (hq E a w R)
 |aD ops kt ko=>
  intro c' hs Q s s' out E a w R h hq;cases c' with
  |region id xs draw=>
   cases draw with
   |true=>simp[f_] at hs
   |false=>
    simp only[f_] at hs;simp only[bH,ab,ah] at h;obtain⟨r,hr,rfl,rfl⟩:=h;refine wp_region_list (iF (i:=0) hcf R hs hr ?_);intro E' a' w' R';exact hq E' a' w' (by simpa using R'.keep kt ko)
  |_=>simp[f_] at hs
 |gC ops anc kt ko=>
  intro c' hs Q s s' out E a w R h hq;cases c' with
  |region id xs draw=>
   cases draw with
   |false=>simp[f_] at hs
   |true=>
    simp only[f_,n5,ae,beq_iff_eq] at hs;obtain⟨⟨hm,hsz⟩,hok⟩:=hs;simp only[bH,ab,ah] at h;obtain⟨r,hr,rfl,rfl⟩:=h;obtain⟨es,hlen,rfl,hes⟩:=gN hr;have z:∀(es:List dz) (i:Nat) (t:List (Nat×V)),cI (fun j=>(Array.replicate xs.size false).getD j false) i es t=t:=by
     intro es
     induction es with
     |nil=>intro i t;rfl
     |cons e es ih=>intro i t;simp only[cI];rw[if_neg (by simp[Array.getElem?_replicate];split<;>simp)];exact ih _ _
    have z2:∀(es:List dz) (i:Nat) (t:List (Nat×Ob)),cR (fun j=>(Array.replicate xs.size false).getD j false) i es t=t:=by
     intro es
     induction es with
     |nil=>intro i t;rfl
     |cons e es ih=>intro i t;simp only[cR];rw[if_neg (by simp[Array.getElem?_replicate];split<;>simp)];exact ih _ _
    refine wp_region_any hm (oO (E:=E) hcf hsz hok (fun j m hj=> ?_) hlen (fun E' a' w' R'=>hq E' a' w' (R'.keep kt ko)) xs.size _ (by simp) (Nat.le_trans (List.length_filter_le _ _) (by simp)) ?_ ?_)
    ·obtain⟨a',e,q1,q2,q3,_,q5⟩:=hes j m hj;refine⟨a',e,q1,q2, ?_,fun j' e' h1 h2=> ?_⟩
     ·simpa only[Nat.zero_add] using q3
     ·have:=q5 j' e' h1 h2;simpa only[Nat.zero_add] using this
    ·intro i b _ hi;exfalso;revert hi;simp[Array.getElem?_replicate];split<;>simp
    ·rw[z,z2];exact Rel.same (w':={w with drawn:=w.drawn+1}) (n':=NS s.n fun j=>(Array.replicate xs.size false).getD j false) R rfl rfl rfl rfl (fun k hk=>Or.inl hk)
  |_=>simp[f_] at hs
 |seq x y ihx ihy=>
  intro c' hs Q s s' out E a w R h hq;cases c'<;>first|(simp[f_] at hs;done)|skip
  simp only[f_,ae] at hs;simp only[bH] at h;split at h
  ·rename_i s1 h1;exact wp_seq (ihx _ hs.1 R h1 fun E' a' w' R'=>ihy _ hs.2 R' h hq)
  ·rename_i hne;refine wp_seq (ihx _ hs.1 R h fun E' a' w' R'=> ?_);cases out with
   |normal=>exact(hne _ h).elim
   |exit id=>exact hq E' a' w' R'
   |ret=>exact hq E' a' w' R'
 |cond x y z ihy ihz=>
  intro c' hs Q s s' out E a w R h hq;cases c'<;>first|(simp[f_] at hs;done)|skip
  simp only[f_,ae] at hs;simp only[bH] at h;split at h
  ·rename_i hb;exact wp_cond (dI R hs.1.1 hb) (ihy _ hs.1.2 R h hq)
  ·rename_i hb;exact wp_cond (dI R hs.1.1 hb) (ihz _ hs.2 R h hq)
  ·cases h
 |block id x ih=>
  intro c' hs Q s s' out E a w R h hq;cases c'<;>first|(simp[f_] at hs;done)|skip
  simp only[f_,ae,beq_iff_eq] at hs;obtain⟨rfl,hs⟩:=hs;simp only[bH] at h;split at h
  ·rename_i id' s1 h1;simp only[af] at h;refine wp_block (ih _ hs R h1 fun E' a' w' R'=> ?_);simp only[oB,Exit.inBlock];split at h
   ·rename_i e;simp only[ah] at h;obtain⟨rfl,rfl⟩:=h;rw[if_pos e];exact hq E' a' w' R'
   ·rename_i e;simp only[ah] at h;obtain⟨rfl,rfl⟩:=h;rw[if_neg e];exact hq E' a' w' R'
  ·rename_i hne;refine wp_block (ih _ hs R h fun E' a' w' R'=> ?_);cases out with
   |normal=>exact hq E' a' w' R'
   |exit id'=>exact(hne _ _ h).elim
   |ret=>exact hq E' a' w' R'
 |loop x ih=>
  intro c' hs Q s s' out E a w R h hq;cases c'<;>first|(simp[f_] at hs;done)|skip
  rename_i body;simp only[f_] at hs;simp only[bH] at h;refine wp_loop_rounds k ?_;have key:∀(m:Nat) {s:St} {E:Nat→Option Loc} {a:Act} {w:World},Rel F Pr w0 lb N E (fun k=>k<s.n) s.t s.o a w→ca (bH cf k x) m s=some (out,s')→Code.rounds P body Q m a w:=by
   intro m
   induction m with
   |zero=>intro s E a w R h;simp[ca] at h
   |succ m ihm=>
    intro s E a w R h;rw[rounds_succ];simp only[ca] at h;split at h
    ·rename_i s1 h1;exact ih _ hs R h1 fun E' a' w' R'=>ihm R' h
    ·rename_i hne;refine ih _ hs R h fun E' a' w' R'=> ?_
     cases out with
     |normal=>exact(hne _ h).elim
     |exit id=>exact hq E' a' w' R'
     |ret=>exact hq E' a' w' R'
  exact key k R h
 |exit id=>
  intro c' hs Q s s' out E a w R h hq;cases c'<;>first|(simp[f_] at hs;done)|skip
  simp only[f_,beq_iff_eq] at hs;subst hs;simp only[bH,af,ah] at h;obtain⟨rfl,rfl⟩:=h;exact wp_exit (hq E a w R)
 |ret=>
  intro c' hs Q s s' out E a w R h hq;cases c'<;>first|(simp[f_] at hs;done)|skip
  simp only[bH,af,ah] at h;obtain⟨rfl,rfl⟩:=h;exact wp_ret (hq E a w R)
 |shut ids x ih=>
  intro c' hs Q s s' out E a w R h hq;have hs':f_ P F N x c'=true:=by rw[f_] at hs;exact hs
  simp only[bH] at h;exact ih c' hs' (R.shut ids) h hq
def mi(P:Program):List R→List ResultVar→Bool
 |[],[]=>true
 | .tmp x::rs,.tmp y::qs=>x==y&&mi P rs qs
 | .cell x agg k::rs,.cell y ty::qs=>x==y&&(df P ty==some agg)&&(cj P ty==some k)&&mi P rs qs
 |_,_=>false
theorem hZ{ty:TypeId}{ad:Addr}{cs:List Value}(ha:df P ty=some true)(hs:cj P ty=some cs.length)
  (h:∀(q:Nat) (v:Value),cs[q]? =some v→w.cell? (ad.add q)=some v):(loadVar ty ad).run P w= .ok (.agg cs.toArray) w:=by
 simp only[loadVar,Sem.run_bind,Result.andThen_ok,cM ha,if_true,bu hs];rw[run_loadCells_list w ad cs h];simp
theorem hX{ty:TypeId}{ad:Addr}{v:Value}(ha:df P ty=some false)(h:w.cell? ad=some v):(loadVar ty ad).run P w= .ok v w:=by
 simp[loadVar,cM ha,h]
def dH(tmps:Array Value):ResultVar→Sem Value
 | .tmp t=>pure (tmps.getD t undef)
 | .cell a t=>do loadVar t (←asAddr (tmps.getD a undef))
theorem lI(R:Rel F Pr w0 lb N E n t o a w){r:Mx.R}{q:ResultVar}(hok:mi P [r] [q]=true){v:V}(h:nZ t o r=some v):∃x,(dH a.tmps q).run P w= .ok x w∧bW (cx F Pr E o w) v x:=by
 cases r with
 |tmp d=>
  cases q with
  |tmp d'=>
   simp only[mi,Bool.and_true,beq_iff_eq] at hok;subst hok;exact⟨_,rfl,R.tmps d v h⟩
  |cell=>simp[mi] at hok
 |cell d agg k=>
  cases q with
  |tmp=>simp[mi] at hok
  |cell d' ty=>
   simp only[mi,Bool.and_true,ae,beq_iff_eq] at hok;obtain⟨⟨rfl,ha⟩,hs⟩:=hok;simp only[nZ] at h;split at h
   ·rename_i x hx;split at h
    ·rename_i r j hp;obtain⟨ad,hv,hcells⟩:=jB R (R.tmps d _ hx).ji hp;have hrun:∀val,(loadVar ty ad).run P w= .ok val w→(dH a.tmps (.cell d ty)).run P w= .ok val w:=by
      intro val hl;simp[dH,hv,asAddr,hl]
     split at h
     ·rename_i hagg;subst hagg;split at h
      ·rename_i hk;cases h;obtain⟨cs,hl,hrep,hc⟩:=jA (X:=cx F Pr E o w) hcells hk;exact⟨_,hrun _ (hZ ha (by rw[hl];exact hs) hc),.rH hrep⟩
      ·cases h
     ·rename_i hagg;have hagg':agg=false:=by cases agg<;>simp_all
      subst hagg';rw[ab] at h;obtain⟨c,hc,rfl⟩:=h;obtain⟨u,hu,hr⟩:=hcells 0 c (by simpa using hc);rw[add_zero] at hu;exact⟨u,hrun _ (hX ha hu),.c _ _ hr⟩
    ·cases h
   ·cases h
theorem hO(R:Rel F Pr w0 lb N E n t o a w):∀{rs:List Mx.R} {qs:List ResultVar} {vs:List V},mi P rs qs=true→bB (nZ t o) rs=some vs→
  ∃xs:List Value,(qs.mapM (dH a.tmps)).run P w= .ok xs w∧vs.length=xs.length∧∀(i:Nat) (v:V) (x:Value),vs[i]? =some v→xs[i]? =some x→bW (cx F Pr E o w) v x
 |[],[],vs,_,h=>by simp[bB] at h;subst h;exact⟨[],rfl,rfl,fun i v x h=>by simp at h⟩
 |r::rs,q::qs,vs,hok,h=>by
  simp only[bB] at h;split at h
  ·rename_i v vs' h1 h2;cases h;have hok2:mi P [r] [q]=true∧mi P rs qs=true:=by
    cases r<;>cases q<;>simp_all[mi]
   obtain⟨x,hx,hr⟩:=lI R hok2.1 h1;obtain⟨xs,hxs,hl,hrs⟩:=hO R hok2.2 h2;refine⟨x::xs,by simp[List.mapM_cons,hx,hxs],by simp[hl],fun i u z hu hz=> ?_⟩;cases i with
   |zero=>simp at hu hz;subst hu hz;exact hr
   |succ i=>exact hrs i u z (by simpa using hu) (by simpa using hz)
  ·cases h
 |[],_::_,_,hok,_=>by simp[mi] at hok
 |r::_,[],_,hok,_=>by cases r<;>simp[mi] at hok
theorem kJ{fn:Func}{tmps:Array Value}{xs:List Value}(h:(fn.results.toList.mapM (dH tmps)).run P w= .ok xs w):
  (results fn tmps).run P w= .ok (if h:xs.length=1 then xs[0] else .tuple xs.toArray) w:=by
 have hr:results fn tmps=(do
  let vs ←fn.results.mapM (dH tmps)
  pure (if h:vs.size=1 then vs[0] else .tuple vs)):=rfl
 rw[hr,Array.mapM_eq_mapM_toList];simp[h]
theorem eS{o:List (Nat×Ob)}:∀{lent after:List (Nat×Ob)},fx o lent=some after→∀p ob,get lent p=some ob→∃b b',get o p=some b∧b.aw=p∧b.w=true∧get after p=some b'∧
  (b'=b∧b.bx=false∨∃rows,bB (fun r=>bB (cl o) r) b.rows=some rows∧b'={b with rows:=rows})
 |[],_,_,p,ob,hg=>by simp[get] at hg
 |(p',ob')::lent,after,h,p,ob,hg=>by
  simp only[fx] at h;split at h
  ·rename_i b l' hb hl;split at h
   ·rename_i hc;by_cases e:p=p'
    ·subst e;split at h
     ·rw[ab] at h;obtain⟨rows,hm,rfl⟩:=h;exact⟨b,_,hb,hc.1,hc.2,fH _ _ _,.inr ⟨rows,hm,rfl⟩⟩
     ·rename_i hbx;cases h;exact⟨b,b,hb,hc.1,hc.2,fH _ _ _,.inl ⟨rfl,by simpa using hbx⟩⟩
    ·rw[fm e] at hg;obtain⟨b1,b2,g1,g2,g3,g4,g5⟩:=eS hl p ob hg;split at h
     ·rw[ab] at h;obtain⟨rows,hm,rfl⟩:=h;exact⟨b1,b2,g1,g2,g3,by rw[fm e];exact g4,g5⟩
     ·cases h;exact⟨b1,b2,g1,g2,g3,by rw[fm e];exact g4,g5⟩
   ·cases h
  ·cases h
def dW(E:Nat→Option Loc)(o:List (Nat×Ob))(np:Nat)(raw:List T)(q:Nat):Option Loc:=
 match raw[q]? with
 |some (.row id _ _ _)=>if dn np id then none else(match get o id with|some b=>if b.w then E b.aw else none|none=>none)
 |some (.ptr id _ _ _)=>if dn np id then none else(match get o id with|some b=>if b.w then E b.aw else none|none=>none)
 |some (.dm _)=>some .nil
 |_=>none
def mh(np:Nat)(o:List (Nat×Ob)):T→List Nat
 | .row id _ _ _=>if dn np id then [] else(match get o id with|some b=>if b.w then [id] else []|none=>[])
 | .ptr id _ _ _=>if dn np id then [] else(match get o id with|some b=>if b.w then [id] else []|none=>[])
 |_=>[]
theorem fv{np q b cap sz:Nat}{raw:List T}(h:dW E o np raw q=some (.cK b cap sz)):∃x id ob,raw[q]? =some x∧mh np o x=[id]∧dn np id=false∧get o id=some ob∧ob.w=true∧E ob.aw=some (.cK b cap sz):=by
 unfold dW at h;split at h
 ·rename_i id aw off len hq;split at h
  ·cases h
  ·rename_i hnp;split at h
   ·rename_i ob hg;split at h
    ·rename_i hw;exact⟨_,id,ob,hq,by simp[mh,hnp,hg,hw],by simpa using hnp,hg,hw,h⟩
    ·cases h
   ·cases h
 ·rename_i id aw off len hq;split at h
  ·cases h
  ·rename_i hnp;split at h
   ·rename_i ob hg;split at h
    ·rename_i hw;exact⟨_,id,ob,hq,by simp[mh,hnp,hg,hw],by simpa using hnp,hg,hw,h⟩
    ·cases h
   ·cases h
 ·cases h
 ·cases h
theorem gW{α:Type}{g:α→List Nat}:∀{l:List α},(l.flatMap g).Nodup→∀{i j:Nat} {x y:α} {k:Nat},l[i]? =some x→l[j]? =some y→k∈g x→k∈g y→i=j
 |[],_,i,_,_,_,_,h,_,_,_=>by simp at h
 |z::l,hn,i,j,x,y,k,hi,hj,hx,hy=>by
  simp only[bY,List.nodup_append] at hn;obtain⟨h1,h2,h3⟩:=hn;cases i with
  |zero=>
   cases j with
   |zero=>rfl
   |succ j=>
    simp at hi hj;subst hi;exact(h3 k hx k (List.mem_flatMap.2 ⟨y,ch hj,hy⟩) rfl).elim
  |succ i=>
   cases j with
   |zero=>
    simp at hi hj;subst hj;exact(h3 k hy k (List.mem_flatMap.2 ⟨x,ch hi,hx⟩) rfl).elim
   |succ j=>rw[gW h2 (i:=i) (j:=j) (by simpa using hi) (by simpa using hj) hx hy]
section fin
variable {X:Cx} {np:Nat} {raw:List T} {lent:List (Nat×Ob)} (R:Rel F Pr w0 lb N E n t o a w) (K:cV (cx F Pr E o w) X) (hw:X.w=w)
 (hl:∀p ob,get lent p=some ob→∃b,get o p=some b∧b.aw=p)
include R K hw hl
theorem mw{q:Nat}{x y:T}{v:Value}(hq:raw[q]? =some x)(h:gp np o x=some y)(hr:bN (cx F Pr E o w) x v):fU X (dW E o np raw) lent q y v:=by
 cases x with
 |int k m=>simp[gp] at h;subst h;cases hr;exact .int _ _
 |bool b=>simp[gp] at h;subst h;cases hr;exact .bool _
 |str s=>simp[gp] at h;subst h;cases hr;exact .str _
 |dm sz=>
  simp[gp] at h;subst h;cases hr;exact .own sz [] .nil (by simp[dW,hq]) ⟨rfl,rfl⟩
 |sl own sz rows=>
  simp[gp] at h;subst h;cases hr with
  |sl _ _ _ A c vs h1 h2 h3 h4 h5=>exact .sh _ _ _ ((bN.sl (X:=cx F Pr E o w) false _ _ A c vs h1 h2 h3 h4 h5).mono K)
 |row id aw off len=>
  simp only[gp] at h;split at h
  ·rename_i b hg;split at h
   ·rename_i hc;obtain⟨hver,hbx,hfit⟩:=hc;split at h
    ·rename_i hlt;cases h;refine .row id aw off len v fun ob hob=> ?_
     obtain⟨b',h1,h2⟩:=hl id ob hob;rw[hg] at h1;cases h1;have:aw=id:=by rw[←hver,h2]
     subst this;exact hr.mono K
    ·rename_i hge;split at h
     ·rename_i hc2;cases h;obtain⟨_,l,hloc,hrl⟩:=R.dO id b hg;have ho:dW E o np raw q=some l:=by
       simp only[dW,hq,if_neg hge,hg,hc2.1,if_true];exact hloc
      have hoff:off=0:=by simpa using hc2.2
      subst hoff;have hlen:(b.rows.take len).length=len:=by simp;omega
      cases hr with
      |row _ _ _ _ cap sz bk hE' hl' ho'=>
       rw[hver] at hloc;rw[show (cx F Pr E o w).E aw=E aw from rfl,hloc] at hE';cases hE';obtain⟨e,hl0,hwid,hcl,cs,e1,fr,m1,m2,m3,m4⟩:=hrl;subst e;have:=fU.own (X:=X) (lent:=lent) (q:=q) b.sz (b.rows.take len) (.cK bk cap b.sz) ho
        ⟨rfl,by simp only[hlen];omega,iB hwid,fun _ i j r t hi ht=>hcl hbx i j r t (by rw[aO] at hi;split at hi;exact hi;cases hi) ht,cs,e1,fr,by rw[hw];exact m1,m2,m3,fun i j r t hi ht=>by
         rw[aO] at hi;split at hi
         ·obtain⟨v,q1,q2⟩:=m4 i j r t hi ht;exact⟨v,q1,q2.mono K⟩
         ·cases hi⟩
       simp only[hlen,og] at this;simpa [add_zero] using this
      |dE _ _ hE'=>
       rw[hver] at hloc;rw[show (cx F Pr E o w).E aw=E aw from rfl,hloc] at hE';cases hE';have:=fU.own (X:=X) (lent:=lent) (q:=q) b.sz (b.rows.take 0) .nil ho ⟨by simp,rfl⟩;simpa [og] using this
     ·split at h
      ·cases h
      ·rename_i hnw;cases h;exact .sh _ _ _ ((mg R hg hver hfit (by simpa using hnw) hbx hr).mono K)
   ·cases h
  ·cases h
 |ptr id aw i j=>
  simp only[gp] at h;split at h
  ·rename_i b hg;split at h
   ·rename_i hc;obtain⟨hver,hbw,hbx,rfl,rfl,hlt⟩:=hc;split at h
    ·rename_i r hrows;rw[ab] at h;obtain⟨r',hm,rfl⟩:=h;obtain⟨_,l,hloc,hrl⟩:=R.dO id b hg;have ho:dW E o np raw q=some l:=by
      simp only[dW,hq,hlt,av,if_false,hg,hbw,if_true];exact hloc
     cases hr with
     |ptr _ _ _ _ bk cap sz hE'=>
      rw[hver] at hloc;rw[show (cx F Pr E o w).E aw=E aw from rfl,hloc] at hE';cases hE';obtain⟨e,hl0,hwid,hcl,cs,e1,fr,m1,m2,m3,m4⟩:=hrl;subst e;have hr0:b.rows[0]? =some r:=by rw[hrows];rfl
      have hlen:r'.length=b.sz:=by rw[bV hm];exact hwid 0 r hr0
      have key:∀(j:Nat) (t:T),r'[j]? =some t→∃v,cs[0*b.sz+j]? =some v∧bN (cx F Pr E o w) t v∧a7 t:=by
       intro j t ht;obtain⟨t0,k3,k4⟩:=cD hm ht;obtain⟨v,q1,q2⟩:=m4 0 j r t0 hr0 k3;exact⟨v,q1,jh R k4 q2,fA R k4 q2⟩
      have:=fU.box (X:=X) (own:=dW E o np raw) (lent:=lent) (q:=q) r' bk cap (by rw[hlen];exact ho)
       ⟨rfl,by rw[hrows] at hl0;simpa using hl0,fun i r0 hi=>by cases i with|zero=>simp at hi;subst hi;rfl|succ i=>simp at hi,
        fun hb=>by simp at hb,cs,e1,fr,by rw[hw];exact m1,by simp only[hlen];exact m2,m3,fun i j r0 t hi ht=>by
         cases i with
         |zero=>simp at hi;subst hi;obtain⟨v,q1,q2,_⟩:=key j t ht;exact⟨v,by simpa using q1,q2.mono K⟩
         |succ i=>simp at hi⟩
       (fun j t ht=>(key j t ht).choose_spec.2.2)
      simpa [add_zero] using this
    ·cases h
   ·cases h
  ·cases h
 |vp=>simp[gp] at h
 |fn=>simp[gp] at h
theorem my:∀{q:Nat} {xs ys:List T} {vs:List Value},(∀(j:Nat) (x:T),xs[j]? =some x→raw[q+j]? =some x)→bB (gp np o) xs=some ys→bw (cx F Pr E o w) xs vs→nL X (dW E o np raw) lent q ys vs
 |q,[],ys,vs,hq,h,hr=>by
  simp[bB] at h;subst h;have:=hr.1;cases vs with
  |nil=>trivial
  |cons=>simp at this
 |q,x::xs,ys,vs,hq,h,hr=>by
  simp only[bB] at h;split at h
  ·rename_i y ys' h1 h2;cases h;obtain⟨v,vs',rfl,r1,r2⟩:=hr.iD;exact⟨mw R K hw hl (by simpa using hq 0 x (by simp)) h1 r1,my (fun j z hz=>by rw[show q+1+j=q+(j+1) from by omega];exact hq (j+1) z (by simpa using hz)) h2 r2⟩
  ·cases h
theorem p7{q:Nat}{x y:V}{v:Value}(hq:∀(j:Nat) (c:T),(x.cells.getD [])[j]? =some c→raw[q+j]? =some c)(h:V.fin np o x=some y)(hr:bW (cx F Pr E o w) x v):
  ku X (dW E o np raw) lent q y v∧y.width=(x.cells.getD []).length:=by
 cases hr with
 |c x v hr=>
  simp only[V.fin,ab] at h;obtain⟨y,hy,rfl⟩:=h;exact⟨mw R K hw hl (by simpa using hq 0 x (by simp[V.cells])) hy hr,rfl⟩
 |a xs cs hn hr=>
  simp only[V.fin,ab] at h;obtain⟨ys,hy,rfl⟩:=h;refine⟨my R K hw hl (xs:=xs) (by simpa [V.cells] using hq) hy ⟨by simpa using hn,fun i t v ht hv=>hr i t v ht (by simpa using hv)⟩, ?_⟩;simp[V.width,V.cells,bV hy]
 |fW=>simp[V.fin] at h
 |undef=>simp[V.fin] at h
theorem kY:∀{q:Nat} {xs ys:List V} {vs:List Value},(∀(j:Nat) (c:T),(xs.flatMap fun x=>x.cells.getD [])[j]? =some c→raw[q+j]? =some c)→bB (V.fin np o) xs=some ys→
  xs.length=vs.length→(∀(i:Nat) (x:V) (v:Value),xs[i]? =some x→vs[i]? =some v→bW (cx F Pr E o w) x v)→jS X (dW E o np raw) lent q ys vs
 |q,[],ys,vs,hq,h,hn,hr=>by
  simp[bB] at h;subst h;cases vs with
  |nil=>trivial
  |cons=>simp at hn
 |q,x::xs,ys,vs,hq,h,hn,hr=>by
  simp only[bB] at h;split at h
  ·rename_i y ys' h1 h2;cases h;cases vs with
   |nil=>simp at hn
   |cons v vs=>
    obtain⟨k1,k2⟩:=p7 R K hw hl (q:=q) (fun j c hc=>hq j c (by rw[bY,List.getElem?_append_left (List.getElem?_eq_some_iff.1 hc).1];exact hc)) h1 (hr 0 x v (by simp) (by simp));refine⟨k1,kY (fun j c hc=> ?_) h2 (by simpa using hn) (fun i x v hx hv=>hr (i+1) x v (by simpa using hx) (by simpa using hv))⟩;rw[k2,Nat.add_assoc];exact hq _ c (by rw[bY,List.getElem?_append_right (by omega),Nat.add_sub_cancel_left];exact hc)
  ·cases h
end fin
end Mx
namespace Mx
open Go
variable {P:Program} {F:Nat→FuncId} {Pr:Nat→Prop} {w0:World} {lb:Lb} {N:Nat} {E:Nat→Option Loc} {n:Nat→Prop} {t:List (Nat×V)} {o:List (Nat×Ob)} {a:Act} {w:World}
def bE(P:Program)(F:Nat→FuncId)(f:Nat)(b:Fn):Bool:=
 match P.funcs[F f]? with
 |some fn=>(fn.name != "runtime.NumGoroutine")&&decide (b.np≤fn.ntmps)&&mi P b.res fn.results.toList&&(match fn.body with|some c=>f_ P F fn.ntmps b.body c|none=>false)
 |none=>false
theorem fG:∀{m:Nat} {as:List V} {k d:Nat} {v:V},get ((List.range' k m).zip as) d=some v→k≤d∧as[d-k]? =some v
 |0,as,k,d,v,h=>by simp[get] at h
 |m+1,[],k,d,v,h=>by simp[get] at h
 |m+1,x::as,k,d,v,h=>by
  rw[List.range'_succ,List.zip_cons_cons] at h;simp only[get] at h;split at h
  ·rename_i e;cases h;subst e;simp
  ·obtain⟨h1,h2⟩:=fG h;refine⟨by omega, ?_⟩;rw[show d-k=(d-(k+1))+1 from by omega];simpa using h2
def r3(lent:List (Nat×Ob))(E0:Nat→Option Loc):Lb:=⟨jn lent E0,E0⟩
theorem nj{E0:Nat→Option Loc}{as:List V}{lent:List (Nat×Ob)}{vals:Array Value}(En:Entry F Pr E0 as lent vals w){m:Nat}(hm:as.length≤m):
  Rel F Pr w (r3 lent E0) m E0 (fun k=>k<2000000) ((List.range as.length).zip as) lent {tmps:=vals++Array.replicate (m-vals.size) undef,defers:=[]} w:=by
 have hsz:vals.size=as.length:=En.n.symm;refine⟨rfl,rfl,rfl,Nat.le_refl _,fun _ _ _=>rfl,rfl,by simp;omega, ?_, ?_, ?_,En.d_,En.fresh,En.pr,fun _ _ h=>h⟩
 ·intro d v hv;rw[List.range_eq_range'] at hv;obtain⟨_,h2⟩:=fG hv;simp only[Nat.sub_zero] at h2;have hd:d<vals.size:=by rw[hsz];exact(List.getElem?_eq_some_iff.1 h2).1
  refine En.args d v _ h2 ?_;rw[aI,Array.getElem?_append_left hd,Array.getElem?_eq_getElem hd,cw]
 ·intro id ob hg;obtain⟨h1,h2,h3,l,h4,h5⟩:=En.dO id ob hg;exact⟨by rw[h1];exact h2.2,l,by rw[h1];exact h4,h5⟩
 ·intro id ob b cap sz hg hE;exact⟨En.place id ob b cap sz hg hE,.inr ⟨id,ob,cap,sz,hg,hE⟩⟩
theorem oA{E0:Nat→Option Loc}{as:List V}{lent:List (Nat×Ob)}{vals:Array Value}(En:Entry F Pr E0 as lent vals w0){np:Nat}(hnp:as.length=np)(R:Rel F Pr w0 (r3 lent E0) N E n t o a w)
  {rs vs:List V} {after:List (Nat×Ob)} {xs:List Value} (hlf:fx o lent=some after) (hnd:(rs.flatMap (j8 np o)).Nodup) (hfin:bB (V.fin np o) rs=some vs)
  (hlen:rs.length=xs.length) (hrep:∀(i:Nat) (v:V) (x:Value),rs[i]? =some v→xs[i]? =some x→bW (cx F Pr E o w) v x):
  qN F Pr E0 lent w0 E (dW E o np (rs.flatMap fun x=>x.cells.getD [])) (pv vs) after (if h:xs.length=1 then xs[0] else .tuple xs.toArray) w:=by
 have hl:∀p ob,get lent p=some ob→∃b,get o p=some b∧b.aw=p:=by
  intro p ob hg;obtain⟨b,_,h1,h2,_⟩:=eS hlf p ob hg;exact⟨b,h1,h2⟩
 have hLB:∀bk,jn lent E0 bk→∃p b cap sz,get o p=some b∧b.w=true∧dn np p=true∧E b.aw=some (.cK bk cap sz):=by
  rintro bk ⟨p,ob,cap,sz,h1,h2⟩;obtain⟨b,_,g1,g2,g3,_⟩:=eS hlf p ob h1;obtain⟨e1,e2,_⟩:=En.dO p ob h1;exact⟨p,b,cap,sz,g1,g3,by rw[←hnp];exact e2.1,by rw[g2,←e1];exact R.ext _ _ h2⟩
 have K:cV (cx F Pr E o w) (rx F Pr E0 lent E (dW E o np (rs.flatMap fun x=>x.cells.getD [])) w):=by
  refine⟨rfl,fun _ _ h=>h,fun ad v hu hc=>⟨hc, ?_⟩⟩;rintro (h|h|⟨q,cap,sz,h⟩)
  ·obtain⟨p,b,cap,sz,h1,h2,_,h3⟩:=hLB _ h;exact hu (.inl ⟨p,b,cap,sz,h1,h2,h3⟩)
  ·exact hu (.inr h)
  ·obtain⟨x,id,ob,_,_,_,h1,h2,h3⟩:=fv h;exact hu (.inl ⟨id,ob,cap,sz,h1,h2,h3⟩)
 have hflat:rs.flatMap (j8 np o)=(rs.flatMap fun x=>x.cells.getD []).flatMap (mh np o):=by
  rw[List.flatMap_assoc];congr 1
 refine⟨R.os,R.tape,R.output,R.size,R.frame,fun aw l h=>R.ext aw l h, ?_, ?_, ?_, ?_⟩
 ·intro q b cap sz h;obtain⟨x,id,ob,_,_,hge,h1,h2,h3⟩:=fv h;obtain⟨p1,p2⟩:=R.place id ob b cap sz h1 h3;refine⟨.inl ?_,p1⟩;rcases p2 with p2|p2
  ·exact p2
  ·obtain⟨p,b',cap',sz',g1,g2,g3,g4⟩:=hLB _ p2;have:=R.d_ id p ob b' b cap sz cap' sz' h1 g1 h3 g4;rw[this,g3] at hge;cases hge
 ·intro q q' b cap sz cap' sz' h h';obtain⟨x,id,ob,e1,e2,_,h1,h2,h3⟩:=fv h;obtain⟨x',id',ob',e1',e2',_,h1',h2',h3'⟩:=fv h';have:=R.d_ id id' ob ob' b cap sz cap' sz' h1 h1' h3 h3';subst this;rw[hflat] at hnd;exact gW hnd e1 e1' (k:=id) (by rw[e2];simp) (by rw[e2'];simp)
 ·have hvs:=kY R K rfl hl (raw:=rs.flatMap fun x=>x.cells.getD []) (q:=0) (fun j c hc=>by simpa using hc) hfin hlen hrep;have hvl:vs.length=xs.length:=by rw[bV hfin,hlen]
  cases vs with
  |nil=>
   cases xs with
   |nil=>exact hvs
   |cons=>simp at hvl
  |cons v vs=>
   cases vs with
   |nil=>
    cases xs with
    |nil=>simp at hvl
    |cons x xs=>
     cases xs with
     |cons=>simp at hvl
     |nil=>
      simp only[pv,jq,dite_true,List.getElem_cons_zero];have h1:=hvs.1;cases v with
      |c=>exact h1
      |a=>exact h1
      |fW=>simp[ku] at h1
      |undef=>simp[ku] at h1
   |cons v' vs=>
    cases xs with
    |nil=>simp at hvl
    |cons x xs=>
     cases xs with
     |nil=>simp at hvl
     |cons x' xs=>
      have:¬(x::x'::xs).length=1:=by simp
      rw[dif_neg this];exact hvs
 ·intro p ob ob' l hg ha hE;obtain⟨b,b',g1,g2,g3,g4,g5⟩:=eS hlf p ob hg;rw[ha] at g4;cases g4;obtain⟨e1,e2,e3,l',e4,e5⟩:=En.dO p ob hg;rw[hE] at e4;cases e4;obtain⟨_,l2,hl2,hrl⟩:=R.dO p b g1;rw[g2,R.ext p l hE] at hl2;cases hl2;cases l with
  |nil=>
   have hb:b.rows=[]:=hrl.1;rcases g5 with⟨rfl,hbx⟩|⟨rows,hm,rfl⟩
   ·exact⟨⟨hb,e5.2⟩,fun i j r t hi=>by rw[hb] at hi;simp at hi⟩
   ·rw[hb] at hm;simp[bB] at hm;subst hm;exact⟨⟨rfl,e5.2⟩,fun i j r t hi=>by simp at hi⟩
  |cK bk cap sz=>
   obtain⟨q1,q2⟩:=hrl;have q3:sz=ob.sz:=e5.1;rcases g5 with⟨rfl,hbx⟩|⟨rows,hm,rfl⟩
   ·exact⟨⟨q3,q2.move rfl rfl (by simp only;omega) (fun _=>q2.cl hbx) fun i j r t v _ _ hv=>hv.mono K⟩,q2.cl hbx⟩
   ·obtain⟨hlen',hwid,hcl,cs,e,fr,m1,m2,m3,m4⟩:=q2;have key:∀(i j:Nat) (r:List T) (t:T),rows[i]? =some r→r[j]? =some t→∃v,cs[i*b.sz+j]? =some v∧bN (cx F Pr E o w) t v∧a7 t:=by
     intro i j r t hi ht;obtain⟨r0,k1,k2⟩:=cD hm hi;obtain⟨t0,k3,k4⟩:=cD k2 ht;obtain⟨v,m1,m2⟩:=m4 i j r0 t0 k1 k3;exact⟨v,m1,jh R k4 m2,fA R k4 m2⟩
    have hclo:∀(i j:Nat) (r:List T) (t:T),rows[i]? =some r→r[j]? =some t→a7 t:=fun i j r t hi ht=>(key i j r t hi ht).choose_spec.2.2
    have hbs:ob.sz=b.sz:=by omega
    refine⟨⟨q3,by simp only[bV hm];exact hlen', ?_,fun _=>hclo,cs,e,fr,m1,by simp only;rw[hbs];exact m2,m3, ?_⟩,hclo⟩
    ·intro i r hi;obtain⟨r0,k1,k2⟩:=cD hm hi;simp only;rw[bV k2,hbs];exact hwid i r0 k1
    ·simp only;rw[hbs];intro i j r t hi ht;obtain⟨v,m1,m2,_⟩:=key i j r t hi ht;exact⟨v,m1,m2.mono K⟩
theorem ry{cf:ay}(hcf:fp P F cf){k f:Nat}{b:Fn}(hok:bE P F f b=true){as:List V}{lent:List (Nat×Ob)}{res:V}{after:List (Nat×Ob)}(h:cX cf k b as lent=some (res,after)):
  j_ P F f=true∧∀Pr E0 vals w,Entry F Pr E0 as lent vals w→Calls P (F f) vals w fun e w'=>∃val E' own,e= .returned val∧qN F Pr E0 lent w E' own res after val w':=by
 unfold bE at hok;split at hok
 ·rename_i fn hfn;simp only[ae,decide_eq_true_eq] at hok;obtain⟨⟨⟨hname,hnp⟩,hres⟩,hbody⟩:=hok;split at hbody
  ·rename_i c hc;refine⟨by simp[j_,hfn,hc];simpa using hname, ?_⟩;intro Pr E0 vals w En;unfold cX at h;split at h
   ·rename_i hlen;have R0:=nj En (m:=fn.ntmps) (by omega);rw[hlen] at R0;refine calls_of_wp hfn hc ?_;split at h
    ·cases h
    ·rename_i out s hne hex;split at h
     ·rename_i rs after' hrs hlf;split at h
      ·rename_i hnd;rw[ab] at h;obtain⟨vs,hvs,he⟩:=h;simp only[ah] at he;obtain⟨rfl,rfl⟩:=he;refine rv hcf k b.body c hbody (s:={t:=(List.range b.np).zip as,o:=lent,n:=2000000}) R0 hex ?_;intro E' a' w' R';obtain⟨xs,hxs,hl,hrep⟩:=hO R' hres hrs;have hrun:=kJ hxs;have B:=oA En hlen R' hlf hnd hvs hl hrep;cases out with
       |exit id=>exact(hne _ rfl).elim
       |normal=>exact⟨R'.defers,_,hrun,_,_,_,rfl,B⟩
       |ret=>exact⟨R'.defers,_,hrun,_,_,_,rfl,B⟩
      ·cases h
     ·cases h
    ·cases h
   ·cases h
  ·cases hbody
 ·cases hok
def jU(P:Program)(F:Nat→FuncId)(f:Nat)(g:List V→List (Nat×Ob)→Option (V×List (Nat×Ob))):Prop:=
 ∀as lent res after,g as lent=some (res,after)→j_ P F f=true∧∀Pr E0 vals w,Entry F Pr E0 as lent vals w→
  Calls P (F f) vals w fun e w'=>∃val E' own,e= .returned val∧qN F Pr E0 lent w E' own res after val w'
def fB(P:Program)(F:Nat→FuncId)(M:Nat→Option Body):Prop:=
 ∀f,match M f with
  |some (.code b)=>bE P F f b=true
  |some (.ext g)=>jU P F f g
  |none=>True
theorem oC{M:Nat→Option Body}(hM:fB P F M):∀k,fp P F (ju M k)
 |0=>fun f as lent res after h=>by simp[ju] at h
 |k+1=>fun f as lent res after h=>by
  simp only[ju] at h;have hf:=hM f;split at h
  ·rename_i b hb;rw[hb] at hf;exact ry (oC hM k) hf h
  ·rename_i g hg;rw[hg] at hf;exact hf as lent res after h
  ·cases h
end Mx
namespace Mx
open Go
def Le(cf cf':ay):Prop:=∀f as lent r,cf f as lent=some r→cf' f as lent=some r
theorem g_{cf cf':ay}(h:Le cf cf'){n:Nat}{o:List (Nat×Ob)}{f:Nat}{vals:List V}{lend:List Nat}{thaw:List (Nat×Nat)}{r:V×List (Nat×Ob)}(hd:bS cf n o f vals lend thaw=some r):
  bS cf' n o f vals lend thaw=some r:=by
 unfold bS at hd ⊢;split at hd
 ·cases hd
 ·rename_i as ls b hargs;split at hd
  ·rename_i hc;rw[if_pos hc];split at hd
   ·cases hd
   ·rename_i res after hres;rw[h _ _ _ _ hres];exact hd
  ·cases hd
theorem ll{cf cf':ay}(h:Le cf cf'){n d:Nat}{t:List (Nat×V)}{o:List (Nat×Ob)}{m:MO}{r:V×List (Nat×Ob)}(ha:act cf n d t o m=some r):act cf' n d t o m=some r:=by
 cases m with
 |call f as lend thaw=>
  simp only[act] at ha ⊢;split at ha
  ·exact g_ h ha
  ·cases ha
 |hJ x as=>
  simp only[act] at ha ⊢;split at ha
  ·exact g_ h ha
  ·cases ha
 |_=>exact ha
theorem jy{cf cf':ay}(h:Le cf cf'){n i:Nat}{m:dj}{t:List (Nat×V)}{o:List (Nat×Ob)}{r:List (Nat×V)×List (Nat×Ob)}(hs:step cf n i m t o=some r):step cf' n i m t o=some r:=by
 unfold step at hs ⊢;split at hs
 ·rw[ab] at hs ⊢;obtain⟨x,hx,rfl⟩:=hs;exact⟨x,ll h hx,rfl⟩
 ·exact hs
 ·cases hs
theorem eI{cf cf':ay}(h:Le cf cf'){n:Nat}:∀{ms:List dj} {i:Nat} {t:List (Nat×V)} {o:List (Nat×Ob)} {r:List (Nat×V)×List (Nat×Ob)},steps cf n i ms t o=some r→steps cf' n i ms t o=some r
 |[],i,t,o,r,hs=>hs
 |m::ms,i,t,o,r,hs=>by
  simp only[steps] at hs ⊢;split at hs
  ·rename_i t' o' h1;rw[jy h h1];exact eI h hs
  ·cases hs
theorem je{cf cf':ay}(h:Le cf cf'){n i:Nat}{m:dj}{t:List (Nat×V)}{o:List (Nat×Ob)}{e:dz}(hs:di cf n i m t o=some e):di cf' n i m t o=some e:=by
 unfold di at hs ⊢;split at hs
 ·rw[ab] at hs ⊢;obtain⟨x,hx,rfl⟩:=hs;exact⟨x,ll h hx,rfl⟩
 ·exact hs
 ·cases hs
theorem dV{cf cf':ay}(h:Le cf cf'){n:Nat}:∀{ms:List dj} {as:List (List Nat)} {i:Nat} {t:List (Nat×V)} {o:List (Nat×Ob)} {acc:List (Nat×dz)} {r:List (Nat×V)×List (Nat×Ob)},bR cf n i ms as t o acc=some r→bR cf' n i ms as t o acc=some r
 |[],as,i,t,o,acc,r,hs=>hs
 |m::ms,[],i,t,o,acc,r,hs=>by simp[bR] at hs
 |m::ms,a::as,i,t,o,acc,r,hs=>by
  simp only[bR] at hs ⊢;split at hs
  ·rename_i e he;rw[je h he];simp only;split at hs
   ·rename_i hc;rw[if_pos hc];exact dV h hs
   ·cases hs
  ·cases hs
theorem eR{f g:St→Option (Out×St)}(h:∀s r,f s=some r→g s=some r):∀{m m':Nat} (_:m≤m') {s:St} {r:Out×St},ca f m s=some r→ca g m' s=some r
 |0,_,_,s,r,hl=>by simp[ca] at hl
 |m+1,0,hm,_,_,_=>by omega
 |m+1,m'+1,hm,s,r,hl=>by
  simp only[ca] at hl ⊢;cases hf:f s with
  |none=>rw[hf] at hl;cases hl
  |some x=>
   obtain⟨out,s'⟩:=x;rw[hf] at hl;rw[h s _ hf];cases out with
   |normal=>exact eR h (by omega) hl
   |exit id=>exact hl
   |ret=>exact hl
theorem oG{cf cf':ay}(h:Le cf cf'){k k':Nat}(hk:k≤k'):∀(c:C) {s:St} {r:Out×St},bH cf k c s=some r→bH cf' k' c s=some r:=by
 intro c
 induction c with
 |skip=>intro s r hs;exact hs
 |aD ops kt ko=>
  intro s r hs;simp only[bH,ab] at hs ⊢;obtain⟨x,hx,rfl⟩:=hs;exact⟨x,eI h hx,rfl⟩
 |gC ops anc kt ko=>
  intro s r hs;simp only[bH,ab] at hs ⊢;obtain⟨x,hx,rfl⟩:=hs;exact⟨x,dV h hx,rfl⟩
 |seq a b iha ihb=>
  intro s r hs;simp only[bH] at hs ⊢;cases ha:bH cf k a s with
  |none=>rw[ha] at hs;cases hs
  |some x=>
   obtain⟨out,s'⟩:=x;rw[ha] at hs;rw[iha ha];cases out with
   |normal=>exact ihb hs
   |exit id=>exact hs
   |ret=>exact hs
 |cond c a b iha ihb=>
  intro s r hs;simp only[bH] at hs ⊢;split at hs
  ·rename_i hc;exact iha hs
  ·rename_i hc;exact ihb hs
  ·cases hs
 |block id a iha=>
  intro s r hs;simp only[bH] at hs ⊢;cases ha:bH cf k a s with
  |none=>rw[ha] at hs;cases hs
  |some x=>
   obtain⟨out,s'⟩:=x;rw[ha] at hs;rw[iha ha];exact hs
 |loop a iha=>
  intro s r hs;simp only[bH] at hs ⊢;exact eR (fun s r h=>iha h) hk hs
 |exit id=>intro s r hs;exact hs
 |ret=>intro s r hs;exact hs
 |shut ids a iha=>intro s r hs;simp only[bH] at hs ⊢;exact iha hs
theorem oK{cf cf':ay}(h:Le cf cf'){k k':Nat}(hk:k≤k'){f:Fn}{as:List V}{lent:List (Nat×Ob)}{r:V×List (Nat×Ob)}(hs:cX cf k f as lent=some r):cX cf' k' f as lent=some r:=by
 unfold cX at hs ⊢;split at hs
 ·rename_i hn;rw[if_pos hn];cases hx:bH cf k f.body {t:=(List.range f.np).zip as,o:=lent,n:=2000000} with
  |none=>rw[hx] at hs;cases hs
  |some x=>
   rw[hx] at hs;rw[oG h hk _ hx];exact hs
 ·cases hs
theorem de(M:Nat→Option Body):∀{k k':Nat},k≤k'→Le (ju M k) (ju M k')
 |0,_,_=>fun f as lent r h=>by simp[ju] at h
 |k+1,0,hk=>by omega
 |k+1,k'+1,hk=>fun f as lent r h=>by
  have hk':k≤k':=by omega
  simp only[ju] at h ⊢;cases hM:M f with
  |none=>rw[hM] at h;cases h
  |some b=>
   rw[hM] at h;cases b with
   |code b=>exact oK (de M hk') hk' h
   |ext g=>exact h
noncomputable def run (M:Nat→Option Body):ay:=fun f as lent=>
 open Classical in if h:∃r,∃k,ju M k f as lent=some r then some h.choose else none
theorem ij{M:Nat→Option Body}{f:Nat}{as:List V}{lent:List (Nat×Ob)}{r:V×List (Nat×Ob)}:run M f as lent=some r↔∃k,ju M k f as lent=some r:=by
 unfold run;constructor
 ·intro h;split at h
  ·rename_i hx;cases h;exact hx.choose_spec
  ·cases h
 ·rintro ⟨k,hk⟩;have hx:∃r,∃k,ju M k f as lent=some r:=⟨r,k,hk⟩
  rw[dif_pos hx];obtain⟨k2,h2⟩:=hx.choose_spec;have e1:=de M (Nat.le_max_left k k2) _ _ _ _ hk;have e2:=de M (Nat.le_max_right k k2) _ _ _ _ h2;rw[e1] at e2;exact e2.symm
theorem q_{P:Program}{F:Nat→FuncId}{M:Nat→Option Body}(hM:fB P F M):fp P F (run M):=by
 intro f as lent res after h;obtain⟨k,hk⟩:=ij.1 h;exact oC hM k f as lent res after hk
section
variable {M:Nat→Option Body}
theorem mI{n d:Nat}{t:List (Nat×V)}{o:List (Nat×Ob)}{m:MO}{r:V×List (Nat×Ob)}(h:act (run M) n d t o m=some r):∃k,act (ju M k) n d t o m=some r:=by
 have key:∀{f vals lend thaw},bS (run M) n o f vals lend thaw=some r→∃k,bS (ju M k) n o f vals lend thaw=some r:=by
  intro f vals lend thaw hd;unfold bS at hd;split at hd
  ·cases hd
  ·rename_i as ls b hargs;split at hd
   ·rename_i hc;split at hd
    ·cases hd
    ·rename_i res after hres;obtain⟨k,hk⟩:=ij.1 hres;refine⟨k, ?_⟩;unfold bS;rw[hargs];simp only;rw[if_pos hc,hk];exact hd
   ·cases hd
 cases m with
 |call f as lend thaw=>
  simp only[act] at h ⊢;split at h
  ·rename_i vals hv;exact key h
  ·cases h
 |hJ x as=>
  simp only[act] at h ⊢;split at h
  ·exact key h
  ·cases h
 |_=>exact⟨0,h⟩
theorem jx{n:Nat}:∀{ms:List dj} {i:Nat} {t:List (Nat×V)} {o:List (Nat×Ob)} {r:List (Nat×V)×List (Nat×Ob)},steps (run M) n i ms t o=some r→∃k,steps (ju M k) n i ms t o=some r
 |[],i,t,o,r,h=>⟨0,h⟩
 |m::ms,i,t,o,r,h=>by
  simp only[steps] at h;split at h
  ·rename_i t' o' h1;obtain⟨k2,h2⟩:=jx h;have:∃k1,step (ju M k1) n i m t o=some (t',o'):=by
    unfold step at h1;split at h1
    ·rename_i hw;rw[ab] at h1;obtain⟨x,hx,hx2⟩:=h1;obtain⟨k,hk⟩:=mI hx;refine⟨k, ?_⟩;unfold step;rw[hw];simp only[hk,cp,hx2]
    ·rename_i hw;refine⟨0, ?_⟩;unfold step;rw[hw];exact h1
    ·cases h1
   obtain⟨k1,h1'⟩:=this;refine⟨max k1 k2, ?_⟩;simp only[steps];rw[jy (de M (Nat.le_max_left k1 k2)) h1'];exact eI (de M (Nat.le_max_right k1 k2)) h2
  ·cases h
theorem iH{n:Nat}:∀{ms:List dj} {as:List (List Nat)} {i:Nat} {t:List (Nat×V)} {o:List (Nat×Ob)} {acc:List (Nat×dz)} {r:List (Nat×V)×List (Nat×Ob)},bR (run M) n i ms as t o acc=some r→∃k,bR (ju M k) n i ms as t o acc=some r
 |[],as,i,t,o,acc,r,h=>⟨0,h⟩
 |m::ms,[],i,t,o,acc,r,h=>by simp[bR] at h
 |m::ms,a::as,i,t,o,acc,r,h=>by
  simp only[bR] at h;split at h
  ·rename_i e he;split at h
   ·rename_i hc;obtain⟨k2,h2⟩:=iH h;have:∃k1,di (ju M k1) n i m t o=some e:=by
     unfold di at he;split at he
     ·rename_i hw;rw[ab] at he;obtain⟨x,hx,hx2⟩:=he;obtain⟨k,hk⟩:=mI hx;refine⟨k, ?_⟩;unfold di;rw[hw];simp only[hk,cp,hx2]
     ·rename_i hw;refine⟨0, ?_⟩;unfold di;rw[hw];exact he
     ·cases he
    obtain⟨k1,h1⟩:=this;refine⟨max k1 k2, ?_⟩;simp only[bR];rw[je (de M (Nat.le_max_left k1 k2)) h1];simp only;rw[if_pos hc];exact dV (de M (Nat.le_max_right k1 k2)) h2
   ·cases h
  ·cases h
theorem qa{k:Nat}:∀(c:C) {s:St} {r:Out×St},bH (run M) k c s=some r→∃K,∀k',K≤k'→bH (ju M k') (max k k') c s=some r:=by
 intro c
 induction c with
 |skip=>intro s r h;exact⟨0,fun _ _=>h⟩
 |aD ops kt ko=>
  intro s r h;simp only[bH,ab] at h ⊢;obtain⟨x,hx,rfl⟩:=h;obtain⟨K,hK⟩:=jx hx;exact⟨K,fun k' hk'=>⟨x,eI (de M hk') hK,rfl⟩⟩
 |gC ops anc kt ko=>
  intro s r h;simp only[bH,ab] at h ⊢;obtain⟨x,hx,rfl⟩:=h;obtain⟨K,hK⟩:=iH hx;exact⟨K,fun k' hk'=>⟨x,dV (de M hk') hK,rfl⟩⟩
 |seq a b iha ihb=>
  intro s r h;simp only[bH] at h ⊢;cases ha:bH (run M) k a s with
  |none=>rw[ha] at h;cases h
  |some x=>
   obtain⟨out,s'⟩:=x;rw[ha] at h;obtain⟨K1,h1⟩:=iha ha;cases out with
   |normal=>
    obtain⟨K2,h2⟩:=ihb h;exact⟨max K1 K2,fun k' hk'=>by rw[h1 k' (by omega)];exact h2 k' (by omega)⟩
   |exit id=>exact⟨K1,fun k' hk'=>by rw[h1 k' hk'];exact h⟩
   |ret=>exact⟨K1,fun k' hk'=>by rw[h1 k' hk'];exact h⟩
 |cond c a b iha ihb=>
  intro s r h;simp only[bH] at h ⊢;split at h
  ·exact iha h
  ·exact ihb h
  ·cases h
 |block id a iha=>
  intro s r h;simp only[bH] at h ⊢;cases ha:bH (run M) k a s with
  |none=>rw[ha] at h;cases h
  |some x=>
   obtain⟨out,s'⟩:=x;rw[ha] at h;obtain⟨K1,h1⟩:=iha ha;exact⟨K1,fun k' hk'=>by rw[h1 k' hk'];exact h⟩
 |loop a iha=>
  intro s r h;simp only[bH] at h ⊢;have key:∀(m:Nat) {s:St},ca (bH (run M) k a) m s=some r→∃K,∀k',K≤k'→ca (bH (ju M k') (max k k') a) m s=some r:=by
   intro m
   induction m with
   |zero=>intro s h;simp[ca] at h
   |succ m ihm=>
    intro s h;simp only[ca] at h;cases ha:bH (run M) k a s with
    |none=>rw[ha] at h;cases h
    |some x=>
     obtain⟨out,s'⟩:=x;rw[ha] at h;obtain⟨K1,h1⟩:=iha ha;cases out with
     |normal=>
      obtain⟨K2,h2⟩:=ihm h;exact⟨max K1 K2,fun k' hk'=>by simp only[ca];rw[h1 k' (by omega)];exact h2 k' (by omega)⟩
     |exit id=>exact⟨K1,fun k' hk'=>by simp only[ca];rw[h1 k' hk'];exact h⟩
     |ret=>exact⟨K1,fun k' hk'=>by simp only[ca];rw[h1 k' hk'];exact h⟩
  obtain⟨K,hK⟩:=key k h;exact⟨K,fun k' hk'=>eR (fun _ _ h=>h) (Nat.le_max_left _ _) (hK k' hk')⟩
 |exit id=>intro s r h;exact⟨0,fun _ _=>h⟩
 |ret=>intro s r h;exact⟨0,fun _ _=>h⟩
 |shut ids a iha=>intro s r h;simp only[bH] at h ⊢;exact iha h
end
theorem aP{M:Nat→Option Body}{f:Nat}{b:Fn}(hM:M f=some (.code b)){as:List V}{lent:List (Nat×Ob)}{r:V×List (Nat×Ob)}(h:∃k,cX (run M) k b as lent=some r):run M f as lent=some r:=by
 obtain⟨k,h⟩:=h;unfold cX at h;split at h
 ·rename_i hn;cases hx:bH (run M) k b.body {t:=(List.range b.np).zip as,o:=lent,n:=2000000} with
  |none=>rw[hx] at h;cases h
  |some x=>
   rw[hx] at h;obtain⟨K,hK⟩:=qa _ hx;refine ij.2 ⟨max k K+1, ?_⟩;simp only[ju,hM];unfold cX;rw[if_pos hn];have:=hK (max k K) (Nat.le_max_right _ _);rw[show max k (max k K)=max k K from by omega] at this;rw[this];exact h
 ·cases h
theorem mf{M:Nat→Option Body}{f:Nat}{g:List V→List (Nat×Ob)→Option (V×List (Nat×Ob))}(hM:M f=some (.ext g)){as:List V}{lent:List (Nat×Ob)}{r:V×List (Nat×Ob)}(h:g as lent=some r):run M f as lent=some r:=
 ij.2 ⟨1,by simp only[ju,hM];exact h⟩
end Mx
namespace Mx
open Go
attribute [simp] kI kB lr Q Qn Qg Qm Qf Ql QL Qs Qb Qi Qx Qa Qv
attribute [simp] bH steps step act wanted dw look bK gS ei dP iV en h_ get place lenOf bin ik iL lP V.cells bB setAt jZ fY rowsOf gO max2 min2 rN jK nZ pv V.fin gp fx j8 args eo dn lM V.im im pq fN V.wr mM nM wr cl bS back fo eU gu eD V.flat eA cE eV cW T.scalar gB
theorem om{α:Type}(l:List (Nat×α)):keep [] l=[]:=rfl
theorem jG{α:Type}(k:Nat)(ks:List Nat)(l:List (Nat×α)):keep (k::ks) l=match get l k with|some v=>(k,v)::keep ks l|none=>keep ks l:=by
 cases h:get l k<;>simp[keep,h]
attribute [simp] om jG
abbrev I(n:Int):T:= .int .i64 n
abbrev U8(n:Int):T:= .int .u8 n
abbrev bs(l:List UInt8):ByteArray:=⟨l.toArray⟩
abbrev S(l:List UInt8):T:= .str (bs l)
theorem mE(l:List UInt8):(bs l).size=l.length:=by simp[ByteArray.size]
theorem ax(l:List UInt8)(i:Nat)(h:i<(bs l).size):(bs l)[i]=l[i]'(by simpa [mE] using h):=by
 simp[bs,ByteArray.getElem_eq_getElem_data]
theorem nw(a b:List UInt8):bs a++bs b=bs (a++b):=by
 apply ByteArray.ext;simp[bs,ByteArray.data_append]
theorem lZ(a:List UInt8)(i j:Nat):(bs a).extract i j=bs ((a.take j).drop i):=by
 apply ByteArray.ext;simp[bs,ByteArray.data_extract,List.drop_take]
theorem eC(a:List UInt8):(bs a).toList=a:=by
 rw[ByteArray.toList_eq]
attribute [simp] mE nw lZ eC
theorem iw(a b:List UInt8):(a==b)=decide (a=b):=by rw[Bool.eq_iff_iff];simp
theorem aj(a b:List UInt8)(h:a.length+b.length≤4611686018427387904):cq .add (bs a) (bs b)=some (S (a++b)):=by
 simp[cq,h]
theorem jY(a b:List UInt8):cq .eql (bs a) (bs b)=some (.bool (decide (a=b))):=by simp only[cq,eC,iw]
theorem pw(a b:List UInt8):cq .neq (bs a) (bs b)=some (.bool !decide (a=b)):=by simp only[cq,eC,iw]
theorem px(a b:List UInt8):cq .lss (bs a) (bs b)=some (.bool (dC a b)):=by simp[cq]
theorem py(a b:List UInt8):cq .leq (bs a) (bs b)=some (.bool (dC a b||decide (a=b))):=by simp only[cq,eC,iw]
theorem pz(a b:List UInt8):cq .gtr (bs a) (bs b)=some (.bool !(dC a b||decide (a=b))):=by simp only[cq,eC,iw]
theorem pA(a b:List UInt8):cq .geq (bs a) (bs b)=some (.bool !(dC a b)):=by simp[cq]
attribute [simp] aj jY pw px py pz pA
theorem wrap_i64{x:Int}(h: -9223372036854775808≤x)(h':x≤9223372036854775807):IntKind.i64.wrap x=x:=by
 unfold IntKind.wrap;simp[IntKind.bits,IntKind.signed]<;>omega
theorem cZ{i:Nat}(h:i<9223372036854775807):IntKind.i64.wrap ((i:Int)+1)=(i:Int)+1:=wrap_i64 (by omega) (by omega)
theorem kA(a b:UInt8):((a.toNat:Int)=(b.toNat:Int))↔a=b:=by
 rw[←UInt8.toNat_inj];omega
theorem lz{α:Type}(l:List α)(i:Nat)(hi:i<l.length):(l.take (i+1)).drop i=[l[i]]:=by
 rw[List.take_succ_eq_append_getElem hi,List.drop_append_of_le_length (by simp;omega),dS (by simp;omega)];rfl
def gK(l:List UInt8):List (List T):=l.map fun b=>[U8 b.toNat]
theorem oQ(l:List UInt8):(gK l).length=l.length:=by simp[gK]
theorem k8(a b:List UInt8):gK a++gK b=gK (a++b):=by simp[gK]
theorem ny(a:List UInt8)(n:Nat):(gK a).take n=gK (a.take n):=by simp[gK]
theorem l4(l:List UInt8):dk (gK l)=some l:=by
 induction l with
 |nil=>rfl
 |cons b l ih=>
  unfold dk gK at ih ⊢;simp only[aY,bB,ih];simp
theorem l3(l:List UInt8):(gK l).isEmpty=l.isEmpty:=by cases l<;>rfl
attribute [simp] oQ k8 ny l4 l3
theorem kO{β:Type}{f:St→Option (Out×St)}(S:Nat→β→St)(Post:Out×St→Prop)(n:Nat)
  (h:∀i,i<n→∀x,∃y,f (S i x)=some (.normal,S (i+1) y)) (hend:∀x,∃r,f (S n x)=some r∧r.1≠.normal∧Post r):
  ∀m,n<m→∀x,∃r,ca f m (S 0 x)=some r∧Post r:=by
 have key:∀d i,i+d=n→∀m,d<m→∀x,∃r,ca f m (S i x)=some r∧Post r:=by
  intro d
  induction d with
  |zero=>
   intro i hi m hm x;have:i=n:=by omega
   subst this;obtain⟨r,h1,h2,h3⟩:=hend x;cases m with
   |zero=>omega
   |succ m=>
    refine⟨r, ?_,h3⟩;simp only[ca,h1];obtain⟨out,s'⟩:=r;cases out with
    |normal=>exact(h2 rfl).elim
    |exit id=>rfl
    |ret=>rfl
  |succ d ih=>
   intro i hi m hm x;cases m with
   |zero=>omega
   |succ m=>
    obtain⟨y,hy⟩:=h i (by omega) x;obtain⟨r,h1,h2⟩:=ih (i+1) (by omega) m (by omega) y;exact⟨r,by simp only[ca,hy];exact h1,h2⟩
 intro m hm x;exact key n 0 (by omega) m hm x
theorem gX{α:Type}(p:α→Bool)(l:List α):∃n,n≤l.length∧(∀i (h:i<l.length),i<n→p l[i]=false)∧((n=l.length∧l.any p=false)∨(∃h:n<l.length,p l[n]=true∧l.any p=true)):=by
 induction l with
 |nil=>exact⟨0,Nat.le_refl _,fun i h=>by simp at h,.inl ⟨rfl,rfl⟩⟩
 |cons b l ih=>
  by_cases hb:p b=true
  ·exact⟨0,by simp,fun i _ h=>by omega,.inr ⟨by simp,hb,by simp[hb]⟩⟩
  ·have hb':p b=false:=by simpa using hb
   obtain⟨n,h1,h2,h3⟩:=ih;refine⟨n+1,by simpa using h1, ?_, ?_⟩
   ·intro i h hi;cases i with
    |zero=>exact hb'
    |succ i=>simpa using h2 i (by simpa using h) (by omega)
   ·rcases h3 with⟨rfl,h⟩|⟨h,q1,q2⟩
    ·left;exact⟨rfl,by rw[List.any_cons,hb',h];rfl⟩
    ·right;exact⟨by simpa using h,by simpa using q1,by rw[List.any_cons,q2];simp⟩
theorem m8{σ β ρ:Type}{f:St→Option (Out×St)}(S:σ→β→St)(Inv:σ→Prop)(μ:σ→Nat)(res:σ→ρ)(Post:ρ→Out×St→Prop)
  (h:∀s x,Inv s→(∃s' y,f (S s x)=some (.normal,S s' y)∧Inv s'∧μ s'<μ s∧res s'=res s)∨(∃r,f (S s x)=some r∧r.1≠.normal∧Post (res s) r)):
  ∀m s x,Inv s→μ s<m→∃r,ca f m (S s x)=some r∧Post (res s) r:=by
 intro m
 induction m with
 |zero=>intro s x _ h;omega
 |succ m ih=>
  intro s x hi hm;rcases h s x hi with⟨s',y,h1,h2,h3,h4⟩|⟨r,h1,h2,h3⟩
  ·obtain⟨r,k1,k2⟩:=ih s' y h2 (by omega);exact⟨r,by simp only[ca,h1];exact k1,by rw[←h4];exact k2⟩
  ·refine⟨r, ?_,h3⟩;simp only[ca,h1];obtain⟨out,s'⟩:=r;cases out with
   |normal=>exact(h2 rfl).elim
   |exit id=>rfl
   |ret=>rfl
theorem fh{σ β ρ γ:Type}{f:St→Option (Out×St)}(S:σ→β→St)(Inv:σ→Prop)(μ:σ→Nat)(res:σ→ρ)(fin:ρ→γ→Out×St)
  (h:∀s x,Inv s→(∃s' y,f (S s x)=some (.normal,S s' y)∧Inv s'∧μ s'<μ s∧res s'=res s)∨(∃z,f (S s x)=some (fin (res s) z)∧(fin (res s) z).1≠.normal)):
  ∀m s,Inv s→μ s<m→∃g:β→γ,∀x,ca f m (S s x)=some (fin (res s) (g x)):=by
 intro m s hi hm;have:=fun x=>m8 S Inv μ res (fun q r=>∃z,r=fin q z)
  (fun s x hi=>by
   rcases h s x hi with h1|⟨z,h1,h2⟩
   ·exact .inl h1
   ·exact .inr ⟨_,h1,h2,z,rfl⟩) m s x hi hm
 refine⟨fun x=>(this x).choose_spec.2.choose,fun x=> ?_⟩;have h1:=(this x).choose_spec;rw[h1.1,←h1.2.choose_spec]
def bm.b:C:= .seq (.aD [Q 2 (.mv (.k (.int .u8 0)))] [0] [])
 (.seq (.seq (.aD [Qm 3 0,Q 4 (.bin .lss (.t 3) (kI 10))] [0,4] [])
 (.cond (.t 4) (.seq (.aD [Qm 5 0,Q 6 (.bin .add (kI 48) (.t 5)),Q 7 (.lQ .u8 (.t 6)),Qm 2 7] [2] [])
 (.ret)) (.skip)))
 (.seq (.aD [Qm 8 0,Q 9 (.bin .add (kI 97) (.t 8)),Q 10 (.bin .sub (.t 9) (kI 10)),Q 11 (.lQ .u8 (.t 10)),Qm 2 11] [2] [])
 (.ret)))
def bm.m:Fn:={np:=1,body:=bm.b,res:=[.tmp 2]}
def bm.k(M:Nat→Option Body):Prop:=M 247=some (.code bm.m)
def aA.l0:C:= .seq (.seq (.aD [Qm 10 0,Q 11 (.bin .neq (.t 10) (kI 0))] [0,3,4,11] [])
 (.cond (.t 11) (.skip) (.exit 0)))
 (.block 1 (.seq (.aD [Qm 12 0,Q 13 (.bin .rem (.t 12) (kI 10)),Qm 5 13] [0,3,4,5] [])
 (.seq (.seq (.aD [Qm 14 5,Q 15 (.bin .lss (.t 14) (kI 0))] [0,3,4,5,15] [])
 (.cond (.t 15) (.aD [Qm 16 5,Q 17 (.neg (.t 16)),Qm 5 17] [0,3,4,5] []) (.skip)))
 (.seq (.aD [Qm 18 5,Q 19 (.call 247 [.t 18] [] []),Q 20 (.cd 1 1 [.int .u8 0] [(0,.t 19)]),Q 21 (.qV (.t 20)),Qm 22 4,Q 23 (.bin .add (.t 21) (.t 22)),Qm 4 23] [0,3,4] [])
 (.aD [Qm 24 0,Q 25 (.bin .quo (.t 24) (kI 10)),Qm 0 25] [0,3,4] [])))))
def aA.b:C:= .seq (.aD [Q 2 (.mv (.k (.str ⟨#[]⟩)))] [0] [])
 (.seq (.seq (.aD [Qm 6 0,Q 7 (.bin .eql (.t 6) (kI 0))] [0,7] [])
 (.cond (.t 7) (.seq (.aD [Q 2 (.mv (.k (.str ⟨#[48]⟩)))] [2] [])
 (.ret)) (.skip)))
 (.seq (.aD [Qm 8 0,Q 9 (.bin .lss (.t 8) (kI 0)),Qm 3 9] [0,3] [])
 (.seq (.aD [Q 4 (.mv (.k (.str ⟨#[]⟩)))] [0,3,4] [])
 (.seq (.block 0 (.loop aA.l0))
 (.seq (.seq (.aD [Qm 26 3] [4,26] [])
 (.cond (.t 26) (.seq (.aD [Qm 27 4,Q 28 (.bin .add (.k (.str ⟨#[45]⟩)) (.t 27)),Qm 2 28] [2] [])
 (.ret)) (.skip)))
 (.seq (.aD [Qm 29 4,Qm 2 29] [2] [])
 (.ret)))))))
def aA.m:Fn:={np:=1,body:=aA.b,res:=[.tmp 2]}
def aA.k(M:Nat→Option Body):Prop:=M 197=some (.code aA.m)∧bm.k M
def aG.l0:C:= .seq (.seq (.aD [Qm 9 4,Q 10 (.bin .neq (.t 9) (kI 0))] [0,3,4,10] [])
 (.cond (.t 10) (.skip) (.exit 0)))
 (.seq (.block 1 (.seq (.aD [Qm 13 4,Q 14 (.bin .rem (.t 13) (kI 10)),Qm 5 14] [0,3,4,5] [])
 (.seq (.aD [Qm 15 5,Qm 16 5,Q 17 (.neg (.t 16)),Q 18 (.max (.t 15) (.t 17)),Qm 5 18] [0,3,4,5] [])
 (.aD [Qm 19 5,Qm 20 5,Q 21 (.bin .add (.t 20) (kI 1)),Q 22 (.iI (.k (.str ⟨#[48,49,50,51,52,53,54,55,56,57,97,98,99,100,101,102]⟩)) (some (.t 19)) (some (.t 21))),
   Qm 23 3,Q 24 (.bin .add (.t 22) (.t 23)),Qm 3 24] [0,3,4] []))))
 (.aD [Qm 11 4,Q 12 (.bin .quo (.t 11) (kI 10)),Qm 4 12] [0,3,4] []))
def aG.b:C:= .seq (.aD [Q 2 (.mv (.k (.str ⟨#[]⟩)))] [0] [])
 (.seq (.seq (.aD [Qm 6 0,Q 7 (.bin .eql (.t 6) (kI 0))] [0,7] [])
 (.cond (.t 7) (.seq (.aD [Q 2 (.mv (.k (.str ⟨#[48]⟩)))] [2] [])
 (.ret)) (.skip)))
 (.seq (.aD [Q 3 (.mv (.k (.str ⟨#[]⟩)))] [0,3] [])
 (.seq (.seq (.aD [Qm 8 0,Qm 4 8] [0,3,4] [])
 (.block 0 (.loop aG.l0)))
 (.seq (.seq (.aD [Qm 25 0,Q 26 (.bin .lss (.t 25) (kI 0))] [3,26] [])
 (.cond (.t 26) (.aD [Qm 27 3,Q 28 (.bin .add (.k (.str ⟨#[45]⟩)) (.t 27)),Qm 3 28] [3] []) (.skip)))
 (.seq (.aD [Qm 29 3,Qm 2 29] [2] [])
 (.ret))))))
def aG.m:Fn:={np:=1,body:=aG.b,res:=[.tmp 2]}
def aG.k(M:Nat→Option Body):Prop:=M 128=some (.code aG.m)
def MO.pure:MO→Bool
 | .mv _=>true
 | .pick .. =>true
 | .load .. =>true
 | .bin .. =>true
 | .beq .. =>true
 | .eqs .. =>true
 | .not _=>true
 | .neg _=>true
 | .lQ .. =>true
 | .fI .. =>true
 | .dB .. =>true
 | .idx .. =>true
 | .p5 .. =>true
 | .ext .. =>true
 | .len _=>true
 | .fC _=>true
 | .iI .. =>true
 | .max .. =>true
 | .min .. =>true
 | .call _ _ l h=>l.isEmpty&&h.isEmpty
 |_=>false
def dg(cf:ay)(n d:Nat)(t:List (Nat×V))(o:List (Nat×Ob))(op:MO):po:=match op with
 | .call f as l h=>act cf n d t (keep (dh t o (.call f as l h)) o) (.call f as l h)
 |op=>act cf n d t o op
def eJ(cf:ay)(n:Nat):Nat→List dj→List (Nat×V)→List (Nat×Ob)→Option (List (Nat×V)×List (Nat×Ob))
 |_,[],t,o=>some (t,o)
 |i,m::ms,t,o=>match wanted t m.guard with
  |some true=>(match dg cf (n+16*i) (m.dst.getD 0) t o m.op with|some r=>eJ cf n (i+1) ms (dw t m.dst r.1) o|none=>none)
  |some false=>eJ cf n (i+1) ms (dw t m.dst .undef) o
  |none=>none
theorem jP{n:Nat}{l:List (Nat×Nat×Nat)}{q:Nat}{t:T}{r:T×List (Nat×Ob)}(h:eD n l [] q t=some r):r.2=[]:=by
 cases t<;>simp[eD,get] at h<;>try (subst h;rfl)
 split at h<;>simp at h
 subst h;rfl
theorem jQ{n:Nat}{l:List (Nat×Nat×Nat)}:∀{ts:List T} {q:Nat} {r:List T×List (Nat×Ob)},gu n l [] q ts=some r→r.2=[]
 |[],_,r,h=>by simp[gu] at h;subst h;rfl
 |t::ts,q,r,h=>by
  simp only[gu] at h;split at h<;>try (cases h)
  rename_i a b hb;split at h<;>cases h
  rename_i a' b' hb';have h1:=jP hb;have h2:=jQ hb';simp only at h1 h2;subst h1 h2;rfl
theorem jO{n:Nat}{l:List (Nat×Nat×Nat)}{q:Nat}{v:V}{r:V×List (Nat×Ob)×Nat}(h:fo n l [] q v=some r):r.2.1=[]:=by
 cases v<;>simp only[fo] at h<;>try (cases h)
 ·split at h<;>cases h
  rename_i a b hb;exact jP hb
 ·split at h<;>cases h
  rename_i a b hb;exact jQ hb
theorem jk{n:Nat}{l:List (Nat×Nat×Nat)}:∀{vs:List V} {q:Nat} {r:List V×List (Nat×Ob)},eU n l [] q vs=some r→r.2=[]
 |[],_,r,h=>by simp[eU] at h;subst h;rfl
 |v::vs,q,r,h=>by
  simp only[eU] at h;split at h<;>try (cases h)
  rename_i a b c hb;split at h<;>cases h
  rename_i a' b' hb';have h1:=jO hb;have h2:=jk hb';simp only at h1 h2;subst h1 h2;rfl
theorem oR{n:Nat}{l:List (Nat×Nat×Nat)}{v:V}{r:V×List (Nat×Ob)}(h:back n l [] v=some r):r.2=[]:=by
 unfold back at h;split at h<;>simp only[ab] at h<;>obtain⟨a,h1,rfl⟩:=h
 ·exact jk h1
 ·exact jO h1
theorem ld{o:List (Nat×Ob)}:∀{vs:List V} {p:Nat} {r:List V×List (Nat×Nat×Ob)×List Nat},args o [] p vs=some r→r.2.1=[]
 |[],_,r,h=>by simp[args] at h;subst h;rfl
 |v::vs,p,r,h=>by
  simp only[args] at h;split at h<;>try (cases h)
  rename_i a b c hb;simp only[List.not_mem_nil,if_false,lM,List.any_nil,av] at h;split at h<;>cases h
  exact ld (r:=(a,b,c)) hb
theorem lW{cf:ay}{n:Nat}{o:List (Nat×Ob)}{f:Nat}{vals:List V}{r:V×List (Nat×Ob)}(h:bS cf n o f vals [] []=some r):r.2=[]:=by
 unfold bS at h;split at h<;>try (cases h)
 rename_i as ls b ha;have:=ld ha;simp only at this;subst this;split at h<;>try (cases h)
 split at h<;>try (cases h)
 rename_i res after _;split at h<;>try (cases h)
 rename_i bf v ups' h1 h2;simp[cE] at h1;have:=oR h2;simp only at this;subst this h1;split at h<;>cases h
 rfl
theorem oX{cf:ay}{n d:Nat}{t:List (Nat×V)}{o:List (Nat×Ob)}{op:MO}(hp:op.pure=true){r:V×List (Nat×Ob)}(h:act cf n d t o op=some r):r.2=[]:=by
 cases op<;>simp only[MO.pure] at hp<;>simp only[act] at h<;>try (cases hp;done)
 all_goals first
  |(simp only[ab] at h;obtain⟨a,_,rfl⟩:=h;rfl)
  |(repeat' split at h)<;>first|(cases h;done)|(cases h;rfl)|(simp only[ab] at h;obtain⟨a,_,rfl⟩:=h;rfl)|(simp only[List.isEmpty_iff,ae] at hp;obtain⟨rfl,rfl⟩:=hp;exact lW h)
theorem gV{α:Type}(ks:List Nat)(l:List (Nat×α)){x:Nat}(h:x∈ks):get (keep ks l) x=get l x:=by
 induction ks with
 |nil=>simp at h
 |cons k ks ih=>
  rw[jG];by_cases e:x=k
  ·subst e;cases hg:get l x with
   |none=>
    simp only[];by_cases hm:x∈ks
    ·rw[ih hm,hg]
    ·cases hq:get (keep ks l) x with
     |none=>rfl
     |some v=>exact(hm (gn ks l hq)).elim
   |some v=>simp[get]
  ·have hm:x∈ks:=by simpa [e] using h
   cases hg:get l k with
   |none=>exact ih hm
   |some v=>simp only[get,e,if_false];exact ih hm
theorem lH{o:List (Nat×Ob)}{ks:List Nat}{a:T}(h:∀x∈ev a,x∈ks):place (keep ks o) a=place o a:=by
 cases a<;>simp only[place]
 rename_i id aw i j;rw[gV ks o (h id (by simp[ev]))]
theorem mO{t:List (Nat×V)}{o:List (Nat×Ob)}{op:MO}{n:Nat}{a:T}(h:n∈op.lS)(hg:get t n=some (.c a)):∀x∈ev a,x∈dh t o op:=by
 intro x hx;simp only[dh,bL];exact⟨n,h,by rw[hg];simp[gj,hx]⟩
def O.plain:O→Bool
 | .k v=>(ev v).isEmpty
 |_=>true
def MO.j7:MO→Bool
 | .load _ _ a=>a.plain
 | .dB _ x _=>x.plain
 |_=>true
theorem jD{t:List (Nat×V)}{o:List (Nat×Ob)}{op:MO}{x:O}{a:T}(hp:x.plain=true)(h:bK t x=some a)(hm:∀n,x= .t n→n∈op.lS):∀y∈ev a,y∈dh t o op:=by
 cases x with
 |t n=>
  simp only[bK,look] at h;split at h<;>cases h
  rename_i hg;exact mO (hm n rfl) hg
 |k v=>
  simp only[bK,look] at h;cases h;simp only[O.plain,List.isEmpty_iff] at hp;intro y hy;rw[hp] at hy;cases hy
 |fn f=>
  simp only[bK,look] at h;cases h;intro y hy;simp[ev] at hy
theorem o5{cf:ay}{n d:Nat}{t:List (Nat×V)}{o:List (Nat×Ob)}{op:MO}(hp:op.pure=true)(hp2:op.j7=true):
  act cf n d t (keep (dh t o op) o) op=dg cf n d t o op:=by
 cases op<;>simp only[MO.pure] at hp<;>simp only[dg]<;>try (cases hp;done)
 all_goals try (simp only[act];done)
 case load agg k a=>
  simp only[act];cases ha:bK t a with
  |none=>rfl
  |some v=>
   simp only[];rw[lH (jD hp2 ha (fun m e=>by subst e;simp[MO.lS,MO.tmps,O.tmps]))]
 case dB sz x ix=>
  simp only[act];cases ha:bK t x with
  |none=>rfl
  |some v=>
   cases v with
   |row id aw off len=>
    cases hi:dP t ix with
    |none=>rfl
    |some i=>
     simp only[];rw[gV _ o (jD (o:=o) (op:= .dB sz x ix) hp2 ha (fun m e=>by subst e;simp[MO.lS,MO.tmps,O.tmps]) id (by simp[ev]))]
   |sl own s rows=>cases dP t ix<;>rfl
   |_=>cases dP t ix<;>rfl
def ef:List dj→Bool
 |[]=>true
 |m::ms=>m.op.pure&&m.op.j7&&ef ms
theorem fc{cf:ay}{n:Nat}:∀(ms:List dj) (as:List (List Nat)) (i:Nat) (t:List (Nat×V)) (o:List (Nat×Ob)) (acc:List (Nat×dz)),ef ms=true→ms.length≤as.length→(∀p∈acc,p.2.bf=[])→
  bR cf n i ms as t o acc=eJ cf n i ms t o
 |[],as,i,t,o,acc,_,_,_=>by simp[bR,eJ]
 |m::ms,[],i,t,o,acc,_,h,_=>by simp at h
 |m::ms,a::as,i,t,o,acc,hp,hl,ha=>by
  simp only[ef,ae] at hp;have hk:=o5 (cf:=cf) (n:=n+16*i) (d:=m.dst.getD 0) (t:=t) (o:=o) hp.1.1 hp.1.2;simp only[bR,eJ,di];cases hw:wanted t m.guard with
  |none=>rfl
  |some b=>
   have hall:∀e:dz,e.bf=[]→acc.all (fun x=>a.contains x.1||e.apart x.2)=true:=by
    intro e he;simp only[au];intro p hpm;simp[dz.apart,dz.W,he,ha p hpm]
   cases b with
   |false=>
    simp only[];rw[if_pos (hall _ rfl),b9];exact fc ms as (i+1) _ o _ hp.2 (by simp at hl;omega) (fun p h=>by
     rcases List.mem_cons.1 h with rfl|h
     ·rfl
     ·exact ha p h)
   |true=>
    simp only[hk];cases hr:dg cf (n+16*i) (m.dst.getD 0) t o m.op with
    |none=>rfl
    |some r=>
     have hu:r.2=[]:=by
      rw[←hk] at hr;exact oX hp.1.1 hr
     simp only[cp];rw[if_pos (hall _ hu),hu,b9];exact fc ms as (i+1) _ o _ hp.2 (by simp at hl;omega) (fun p h=>by
      rcases List.mem_cons.1 h with rfl|h
      ·first|exact hu|rfl
      ·exact ha p h)
theorem mV{cf:ay}{n:Nat}{ms:List dj}{as:List (List Nat)}{t:List (Nat×V)}{o:List (Nat×Ob)}(h1:ef ms=true)(h2:ms.length≤as.length):bR cf n 0 ms as t o []=eJ cf n 0 ms t o:=
 fc ms as 0 t o [] h1 h2 (by simp)
def rG:List dj→List (List Nat)→Bool
 |[],_=>true
 |_::_,[]=>false
 |m::ms,_::as=>m.op.pure&&(m.op.j7&&rG ms as)
theorem iR:∀(ms:List dj) (as:List (List Nat)),rG ms as=true→ef ms=true∧ms.length≤as.length
 |[],as,_=>⟨rfl,by simp⟩
 |m::ms,[],h=>by simp[rG] at h
 |m::ms,a::as,h=>by
  simp only[rG,ae] at h;have ih:=iR ms as h.2.2;exact⟨by simp[ef,h.1,h.2.1,ih.1],by simp;exact ih.2⟩
def ec(cf:ay)(n i:Nat)(m:dj)(t:List (Nat×V))(o:List (Nat×Ob)):Option (List (Nat×V)):=match wanted t m.guard with
 |some true=>(dg cf (n+16*i) (m.dst.getD 0) t o m.op).map fun r=>dw t m.dst r.1
 |some false=>some (dw t m.dst .undef)
 |none=>none
def gz(cf:ay)(n:Nat):Nat→List dj→List (Nat×V)→List (Nat×Ob)→Option (List (Nat×V)×List (Nat×Ob))
 |_,[],t,o=>some (t,o)
 |i,m::ms,t,o=>match ec cf n i m t o with|some t'=>gz cf n (i+1) ms t' o|none=>none
theorem iG{cf:ay}{n:Nat}:∀(ms:List dj) (i:Nat) (t:List (Nat×V)) (o:List (Nat×Ob)),eJ cf n i ms t o=gz cf n i ms t o
 |[],i,t,o=>by simp only[eJ,gz]
 |m::ms,i,t,o=>by
  simp only[eJ,gz,ec];cases hw:wanted t m.guard with
  |none=>rfl
  |some b=>
   cases b with
   |false=>exact iG ms _ _ _
   |true=>
    cases hr:dg cf (n+16*i) (m.dst.getD 0) t o m.op with
    |none=>rfl
    |some r=>simp only[cp];exact iG ms _ _ _
theorem pG{cf:ay}{n:Nat}{ms:List dj}{as:List (List Nat)}{t:List (Nat×V)}{o:List (Nat×Ob)}(h:rG ms as=true):bR cf n 0 ms as t o []=gz cf n 0 ms t o:=by
 rw[←iG];exact mV (iR ms as h).1 (iR ms as h).2
def pt(acc:List (Nat×dz)):List (Nat×Nat):=acc.flatMap fun x=>x.2.W.map fun y=>(x.1,y)
def qY(acc:List (Nat×dz)):List (Nat×List Nat):=acc.map fun x=>(x.1,x.2.T)
def sm(a:List Nat)(T:List Nat)(bf:List (Nat×Ob))(ws:List (Nat×Nat))(ts:List (Nat×List Nat)):Bool:=
 ws.all (fun w=> !T.contains w.2||a.contains w.1)&&(bf.all fun u=>ts.all (fun x=> !x.2.contains u.1||a.contains x.1)&&ws.all (fun w=> !(u.1==w.2)||a.contains w.1))
def fL(cf:ay)(n:Nat):Nat→List dj→List (List Nat)→List (Nat×V)→List (Nat×Ob)→List (Nat×Nat)→List (Nat×List Nat)→Option (List (Nat×V)×List (Nat×Ob))
 |_,[],_,t,o,_,_=>some (t,o)
 |i,m::ms,a::as,t,o,ws,ts=>
  match di cf n i m t o with
  |some e=>if sm a e.T e.bf ws ts then fL cf n (i+1) ms as (dw t e.dst e.v) (e.bf++o) (e.bf.map (fun u=>(i,u.1))++ws) ((i,e.T)::ts) else none
  |none=>none
 |_,_::_,[],_,_,_,_=>none
theorem rh(a:List Nat)(e:dz)(acc:List (Nat×dz)):acc.all (fun x=>a.contains x.1||e.apart x.2)=sm a e.T e.bf (pt acc) (qY acc):=by
 rw[Bool.eq_iff_iff];simp only[sm,dz.apart,pt,qY,dz.W,au,Bool.or_eq_true,ae,Bool.not_eq_true',bL,sg,beq_eq_false_iff_ne];constructor
 ·intro h;refine⟨?_,fun u hu=>⟨?_, ?_⟩⟩
  ·rintro w ⟨x,hx,y,⟨u,hu,rfl⟩,rfl⟩;rcases h x hx with h1|h1
   ·exact .inr h1
   ·exact .inl (h1.2 u.1 ⟨u,hu,rfl⟩)
  ·rintro y ⟨x,hx,rfl⟩;rcases h x hx with h1|h1
   ·exact .inr h1
   ·exact .inl (h1.1 u.1 ⟨u,hu,rfl⟩).1
  ·rintro w ⟨x,hx,y,⟨u',hu',rfl⟩,rfl⟩;rcases h x hx with h1|h1
   ·exact .inr h1
   ·left;have h2:=(h1.1 u.1 ⟨u,hu,rfl⟩).2;rintro e';have h3:List.contains (List.map (fun x=>x.fst) x.2.bf) u.1=true:=by
     rw[List.contains_iff_mem,sg];exact⟨u',hu',e'.symm⟩
    rw[h3] at h2;cases h2
 ·rintro ⟨h1,h2⟩ x hx;by_cases ha:a.contains x.1=true
  ·exact .inl ha
  ·right;refine⟨?_, ?_⟩
   ·rintro y ⟨u,hu,rfl⟩;refine⟨?_, ?_⟩
    ·rcases (h2 u hu).1 (x.1,x.2.T) ⟨x,hx,rfl⟩ with h3|h3
     ·exact h3
     ·exact(ha h3).elim
    ·cases hc:List.contains (List.map (fun x=>x.fst) x.2.bf) u.1 with
     |false=>rfl
     |true=>
      rw[List.contains_iff_mem,sg] at hc;obtain⟨u',hu',e'⟩:=hc;rcases (h2 u hu).2 (x.1,u'.1) ⟨x,hx,u'.1,⟨u',hu',rfl⟩,rfl⟩ with h3|h3
      ·exact(h3 e'.symm).elim
      ·exact(ha h3).elim
   ·rintro y ⟨u,hu,rfl⟩;rcases h1 (x.1,u.1) ⟨x,hx,u.1,⟨u,hu,rfl⟩,rfl⟩ with h3|h3
    ·exact h3
    ·exact(ha h3).elim
theorem kE{cf:ay}{n:Nat}:∀(ms:List dj) (as:List (List Nat)) (i:Nat) (t:List (Nat×V)) (o:List (Nat×Ob)) (acc:List (Nat×dz)),
  bR cf n i ms as t o acc=fL cf n i ms as t o (pt acc) (qY acc)
 |[],as,i,t,o,acc=>by simp only[bR,fL]
 |m::ms,[],i,t,o,acc=>by simp only[bR,fL]
 |m::ms,a::as,i,t,o,acc=>by
  simp only[bR,fL];cases he:di cf n i m t o with
  |none=>rfl
  |some e=>
   simp only[rh a e acc];split
   ·rw[kE ms as (i+1)];congr 1;simp[pt,dz.W]
   ·rfl
theorem re{cf:ay}{n:Nat}{ms:List dj}{as:List (List Nat)}{t:List (Nat×V)}{o:List (Nat×Ob)}:bR cf n 0 ms as t o []=fL cf n 0 ms as t o [] []:=kE ms as 0 t o []
section
variable {cf:ay} {n d:Nat} {t:List (Nat×V)} {o:List (Nat×Ob)}
theorem nK{f:Nat}{as:List O}{l:List Nat}{h:List (Nat×Nat)}:dg cf n d t o (.call f as l h)=act cf n d t (keep (dh t o (.call f as l h)) o) (.call f as l h):=rfl
theorem qJ(x:O):dg cf n d t o (.mv x)=act cf n d t o (.mv x):=rfl
theorem nI(c a b:O):dg cf n d t o (.pick c a b)=act cf n d t o (.pick c a b):=rfl
theorem nJ(agg:Bool)(k:Nat)(a:O):dg cf n d t o (.load agg k a)=act cf n d t o (.load agg k a):=rfl
theorem pj(neg:Bool)(x y:O):dg cf n d t o (.beq neg x y)=act cf n d t o (.beq neg x y):=rfl
theorem ph(op:BinOp)(x y:O):dg cf n d t o (.bin op x y)=act cf n d t o (.bin op x y):=rfl
theorem pg(neg:Bool)(ks:List Kc)(x y:O):dg cf n d t o (.eqs neg ks x y)=act cf n d t o (.eqs neg ks x y):=rfl
theorem o8(x:O):dg cf n d t o (.not x)=act cf n d t o (.not x):=rfl
theorem o9(x:O):dg cf n d t o (.neg x)=act cf n d t o (.neg x):=rfl
theorem pd(k:IntKind)(x:O):dg cf n d t o (.lQ k x)=act cf n d t o (.lQ k x):=rfl
theorem nG(x:O)(lo hi:Option O):dg cf n d t o (.iI x lo hi)=act cf n d t o (.iI x lo hi):=rfl
theorem l9(off:Nat)(a:O):dg cf n d t o (.fI off a)=act cf n d t o (.fI off a):=rfl
theorem l8(sz:Nat)(x ix:O):dg cf n d t o (.dB sz x ix)=act cf n d t o (.dB sz x ix):=rfl
theorem pc(x ix:O):dg cf n d t o (.idx x ix)=act cf n d t o (.idx x ix):=rfl
theorem pe(agg:Bool)(off k:Nat)(x:O):dg cf n d t o (.p5 agg off k x)=act cf n d t o (.p5 agg off k x):=rfl
theorem pf(i:Nat)(x:O):dg cf n d t o (.ext i x)=act cf n d t o (.ext i x):=rfl
theorem pb(x:O):dg cf n d t o (.len x)=act cf n d t o (.len x):=rfl
theorem nH(x:O):dg cf n d t o (.fC x)=act cf n d t o (.fC x):=rfl
theorem pa(x y:O):dg cf n d t o (.max x y)=act cf n d t o (.max x y):=rfl
theorem o_(x y:O):dg cf n d t o (.min x y)=act cf n d t o (.min x y):=rfl
end
attribute [simp high] pG
attribute [simp low] re
attribute [simp] nK qJ nI nJ pj ph pg o8 o9 pd nG l9 l8 pc pe pf pb nH pa o_
attribute [simp] ec gz fL sm rG MO.pure MO.j7 O.plain di dh MO.lS MO.tmps O.tmps gj ev gI dz.apart dz.W
end Mx
namespace Mx
open Go
def br.b:C:= .seq (.aD [Qb 6 false] [0,1,2] [])
 (.seq (.aD [Qm 7 0,Qm 8 1,Q 9 (.bin .geq (.t 7) (.t 8)),Qm 10 9,Qg 11 (.mv (.t 0)) 10 true,Qg 12 (.mv (.t 2)) 10 true,Qg 13 (.bin .leq (.t 11) (.t 12)) 10 true,
   Q 14 (.pick (.t 10) (.t 13) (kB false)),Qm 6 14] [6] [])
 (.ret))
def br.m:Fn:={np:=3,body:=br.b,res:=[.tmp 6]}
def br.k(M:Nat→Option Body):Prop:=M 101=some (.code br.m)
def sD(s sep:ByteArray):V:= .fW [.c (.str ⟨(Lib.cut s.data.toList sep.data.toList).1.toArray⟩),.c (.str ⟨(Lib.cut s.data.toList sep.data.toList).2.1.toArray⟩),.c (.bool (Lib.cut s.data.toList sep.data.toList).2.2)]
def k7:List V→List (Nat×Ob)→Option (V×List (Nat×Ob))
 |[.c (.str s),.c (.str sep)],[]=>if s.size<4294967281 then some (sD s sep,[]) else none
 |_,_=>none
def fM:List V→List (Nat×Ob)→Option (V×List (Nat×Ob))
 |[.c (.str s),.c (.str sep)],[]=>if s.size<4294967281∧1≤sep.size then some (.c (.sl true 1 ((Lib.splitB sep 0 (Lib.countB s sep) s).map fun x=>[T.str x])),[]) else none
 |_,_=>none
def an.l0:C:= .seq (.seq (.aD [Qm 8 5,Qm 9 0,Q 10 (.fC (.t 9)),Q 11 (.bin .lss (.t 8) (.t 10)),Qm 12 11,Qg 13 (.mv (.t 5)) 12 true,Qg 14 (.bin .lss (.t 13) (kI 5)) 12 true,
    Q 15 (.pick (.t 12) (.t 14) (kB false))] [0,4,5,15] [])
 (.cond (.t 15) (.skip) (.exit 0)))
 (.seq (.block 1 (.seq (.seq (.aD [Qm 18 0,Qm 19 5,Q 20 (.idx (.t 18) (.t 19)),Q 21 (.bin .lss (.t 20) (.k (.int .u8 48))),Qm 22 21,Qg 23 (.mv (.t 0)) 22 false,Qg 24 (.mv (.t 5)) 22 false,
   Qg 25 (.idx (.t 23) (.t 24)) 22 false,Qg 26 (.bin .gtr (.t 25) (.k (.int .u8 57))) 22 false,Q 27 (.pick (.t 22) (kB true) (.t 26))] [0,4,5,27] [])
 (.cond (.t 27) (.seq (.aD [Qi 2 0,Qb 3 false] [2,3] [])
 (.ret)) (.skip)))
 (.aD [Qm 28 4,Q 29 (.bin .mul (kI 10) (.t 28)),Qm 30 0,Qm 31 5,Q 32 (.idx (.t 30) (.t 31)),Q 33 (.bin .sub (.t 32) (.k (.int .u8 48))),Q 34 (.lQ .i64 (.t 33)),
   Q 35 (.bin .add (.t 29) (.t 34)),Qm 4 35] [0,4,5] [])))
 (.aD [Qm 16 5,Q 17 (.bin .add (.t 16) (kI 1)),Qm 5 17] [0,4,5] []))
def an.b:C:= .seq (.aD [Qi 2 0,Qb 3 false] [0] [])
 (.seq (.seq (.aD [Qm 6 0,Q 7 (.bin .eql (.t 6) (.k (.str ⟨#[42]⟩)))] [0,7] [])
 (.cond (.t 7) (.seq (.aD [Qi 2 0,Qb 3 true] [2,3] [])
 (.ret)) (.skip)))
 (.seq (.aD [Qi 4 0] [0,4] [])
 (.seq (.seq (.aD [Qi 5 0] [0,4,5] [])
 (.block 0 (.loop an.l0)))
 (.seq (.aD [Qm 36 4,Qm 37 0,Q 38 (.fC (.t 37)),Q 39 (.call 101 [.t 38,kI 1,kI 4] [] []),Qm 40 39,Qg 41 (.mv (.t 4)) 40 true,Qg 42 (.bin .gtr (.t 41) (kI 0)) 40 true,
   Q 43 (.pick (.t 40) (.t 42) (kB false)),Qm 2 36,Qm 3 43] [2,3] [])
 (.ret)))))
def an.m:Fn:={np:=1,body:=an.b,res:=[.tmp 2,.tmp 3]}
def an.k(M:Nat→Option Body):Prop:=M 539=some (.code an.m)∧br.k M
def ao.l0:C:= .seq (.aD [Q 19 (.bin .lss (.t 18) (.t 17))] [4,16,17,18,19] [14,58])
 (.seq (.cond (.t 19) (.skip) (.exit 0))
 (.seq (.block 1 (.seq (.aD [Qa 20 1 16 18,Ql 21 20,Qm 6 21] [4,6,16,17,18] [14,58])
 (.seq (.aD [Qm 23 6,Q 24 (.call 130 [.t 23,.k (.str ⟨#[58]⟩)] [] []),Qm 22 24,Qx 25 0 22,Qx 26 1 22,Qx 27 2 22,Qm 7 25,Qm 8 26,Qm 9 27] [4,7,8,9,16,17,18] [14,58])
 (.seq (.seq (.aD [Qm 28 9,Q 29 (.not (.t 28))] [4,7,8,16,17,18,29] [14,58])
 (.cond (.t 29) (.aD [Qm 30 7,Qm 8 30] [4,7,8,16,17,18] [14,58]) (.skip)))
 (.seq (.aD [Qm 32 7,Q 33 (.call 539 [.t 32] [] []),Qm 31 33,Qx 34 0 31,Qx 35 1 31,Qm 10 34,Qm 11 35] [4,8,10,11,16,17,18] [14,58])
 (.seq (.aD [Qm 37 8,Q 38 (.call 539 [.t 37] [] []),Qm 36 38,Qx 39 0 36,Qx 40 1 36,Qm 12 39,Qm 13 40] [4,10,11,12,13,16,17,18] [14,58])
 (.seq (.seq (.aD [Qm 41 11,Q 42 (.not (.t 41)),Qm 43 42,Qg 44 (.mv (.t 13)) 43 false,Qg 45 (.not (.t 44)) 43 false,Q 46 (.pick (.t 43) (kB true) (.t 45)),Qm 47 46,Qg 48 (.mv (.t 4)) 47 false,
   Qg 49 (.len (.t 48)) 47 false,Qg 50 (.bin .eql (.t 49) (kI 8)) 47 false,Q 51 (.pick (.t 47) (kB true) (.t 50))] [4,10,12,16,17,18,51] [14,58])
 (.cond (.t 51) (.seq (.aD [Q 52 (.cd 2 0 [.int .i64 0,.int .i64 0] []),Qm 2 52,Qb 3 false] [2,3] [2,14,52,58])
 (.ret)) (.skip)))
 (.aD [Qm 53 4,Qm 54 10,Qm 55 12,Q 56 (.build [.int .i64 0,.int .i64 0] [(0,1,.t 54),(1,1,.t 55)]),Q 57 (.cd 2 1 [.int .i64 0,.int .i64 0] [(0,.t 56)]),
   Q 58 (.app 2 16 (.t 53) (.t 57)),Qm 4 58] [4,16,17,18] [14,58]))))))))
 (.aD [Q 59 (.bin .add (.t 18) (kI 1)),Qm 18 59] [4,16,17,18] [14,58])))
def ao.b:C:= .seq (.aD [Q 2 (.nil 2),Qb 3 false] [0] [])
 (.seq (.aD [Q 14 (.cd 2 0 [.int .i64 0,.int .i64 0] []),Qm 4 14] [0,4] [14,58])
 (.seq (.seq (.aD [Qm 15 0,Q 16 (.call 538 [.t 15,.k (.str ⟨#[44]⟩)] [] []),Q 17 (.len (.t 16)),Qi 18 0] [4,16,17,18] [14,58])
 (.block 0 (.loop ao.l0)))
 (.seq (.aD [Qm 60 4,Qm 2 60,Qb 3 true] [2,3] [2,14,52,58])
 (.ret))))
def ao.m:Fn:={np:=1,body:=ao.b,res:=[.tmp 2,.tmp 3]}
def ao.k(M:Nat→Option Body):Prop:=M 530=some (.code ao.m)∧M 130=some (.ext k7)∧M 538=some (.ext fM)∧an.k M
def ai.l0:C:= .seq (.seq (.aD [Qm 22 8,Qm 23 0,Q 24 (.fC (.t 23)),Q 25 (.bin .lss (.t 22) (.t 24)),Qm 26 25,Qg 27 (.mv (.t 0)) 26 true,Qg 28 (.mv (.t 8)) 26 true,Qg 29 (.idx (.t 27) (.t 28)) 26 true,
    Qg 30 (.bin .geq (.t 29) (.k (.int .u8 48))) 26 true,Q 31 (.pick (.t 26) (.t 30) (kB false)),Qm 32 31,Qg 33 (.mv (.t 0)) 32 true,Qg 34 (.mv (.t 8)) 32 true,
    Qg 35 (.idx (.t 33) (.t 34)) 32 true,Qg 36 (.bin .leq (.t 35) (.k (.int .u8 57))) 32 true,Q 37 (.pick (.t 32) (.t 36) (kB false)),Qm 38 37,Qg 39 (.mv (.t 8)) 38 true,
    Qg 40 (.mv (.t 1)) 38 true,Qg 41 (.bin .add (.t 40) (kI 4)) 38 true,Qg 42 (.bin .lss (.t 39) (.t 41)) 38 true,Q 43 (.pick (.t 38) (.t 42) (kB false))] [0,1,7,8,43] [])
 (.cond (.t 43) (.skip) (.exit 0)))
 (.block 1 (.seq (.aD [Qm 44 7,Q 45 (.bin .mul (kI 10) (.t 44)),Qm 46 0,Qm 47 8,Q 48 (.idx (.t 46) (.t 47)),Q 49 (.lQ .i64 (.t 48)),Q 50 (.bin .add (.t 45) (.t 49)),
   Q 51 (.bin .sub (.t 50) (kI 48)),Qm 7 51] [0,1,7,8] [])
 (.aD [Qm 52 8,Q 53 (.bin .add (.t 52) (kI 1)),Qm 8 53] [0,1,7,8] [])))
def ai.b:C:= .seq (.aD [Qi 4 0,Qi 5 0,Qb 6 false] [0,1] [])
 (.seq (.seq (.aD [Qm 9 1,Qm 10 0,Q 11 (.fC (.t 10)),Q 12 (.bin .lss (.t 9) (.t 11)),Qm 13 12,Qg 14 (.mv (.t 0)) 13 true,Qg 15 (.mv (.t 1)) 13 true,Qg 16 (.idx (.t 14) (.t 15)) 13 true,
   Qg 17 (.bin .eql (.t 16) (.k (.int .u8 42))) 13 true,Q 18 (.pick (.t 13) (.t 17) (kB false))] [0,1,18] [])
 (.cond (.t 18) (.seq (.aD [Qm 19 1,Q 20 (.bin .add (.t 19) (kI 1)),Qi 4 0,Qm 5 20,Qb 6 true] [4,5,6] [])
 (.ret)) (.skip)))
 (.seq (.aD [Qi 7 0] [0,1,7] [])
 (.seq (.aD [Qm 21 1,Qm 8 21] [0,1,7,8] [])
 (.seq (.block 0 (.loop ai.l0))
 (.seq (.aD [Qm 54 7,Qm 55 8,Qm 56 8,Qm 57 1,Q 58 (.bin .gtr (.t 56) (.t 57)),Qm 59 58,Qg 60 (.mv (.t 7)) 59 true,Qg 61 (.bin .gtr (.t 60) (kI 0)) 59 true,
   Q 62 (.pick (.t 59) (.t 61) (kB false)),Qm 4 54,Qm 5 55,Qm 6 62] [4,5,6] [])
 (.ret))))))
def ai.m:Fn:={np:=2,body:=ai.b,res:=[.tmp 4,.tmp 5,.tmp 6]}
def ai.k(M:Nat→Option Body):Prop:=M 326=some (.code ai.m)
def al.l0:C:= .block 1 (.seq (.aD [Qm 17 0,Qm 18 6,Q 19 (.call 326 [.t 17,.t 18] [] []),Qm 16 19,Qx 20 0 16,Qx 21 1 16,Qx 22 2 16,Qm 7 20,Qm 8 21,Qm 9 22] [0,4,5,7,8,9] [14,15,57])
 (.seq (.seq (.aD [Qm 23 9,Q 24 (.not (.t 23))] [0,4,5,7,8,24] [14,15,57])
 (.cond (.t 24) (.seq (.aD [Qm 25 4,Qm 2 25,Qb 3 false] [2,3] [2,14,15,57])
 (.ret)) (.skip)))
 (.seq (.aD [Qm 26 7,Qm 27 7,Q 28 (.build [.int .i64 0,.int .i64 0] [(0,1,.t 26),(1,1,.t 27)]),Q 10 (.alloc [.int .i64 0,.int .i64 0]),Qs 2 10 28] [0,4,5,8,10] [10,14,15,57])
 (.seq (.aD [Qm 29 8,Qm 6 29] [0,4,5,6,10] [10,14,15,57])
 (.seq (.seq (.aD [Qm 30 6,Qm 31 0,Q 32 (.fC (.t 31)),Q 33 (.bin .lss (.t 30) (.t 32)),Qm 34 33,Qg 35 (.mv (.t 0)) 34 true,Qg 36 (.mv (.t 6)) 34 true,Qg 37 (.idx (.t 35) (.t 36)) 34 true,
   Qg 38 (.bin .eql (.t 37) (.k (.int .u8 58))) 34 true,Q 39 (.pick (.t 34) (.t 38) (kB false))] [0,4,5,6,10,39] [10,14,15,57])
 (.cond (.t 39) (.seq (.aD [Qm 41 0,Qm 42 6,Q 43 (.bin .add (.t 42) (kI 1)),Q 44 (.call 326 [.t 41,.t 43] [] []),Qm 40 44,Qx 45 0 40,Qx 46 1 40,Qx 47 2 40,Qm 11 45,Qm 12 46,Qm 13 47] [0,4,5,10,11,12,13] [10,14,15,57])
 (.seq (.seq (.aD [Qm 48 13,Q 49 (.not (.t 48))] [0,4,5,10,11,12,49] [10,14,15,57])
 (.cond (.t 49) (.seq (.aD [Qm 50 4,Qm 2 50,Qb 3 false] [2,3] [2,14,15,57])
 (.ret)) (.skip)))
 (.seq (.aD [Qm 51 11,Qf 52 1 10,Qs 1 52 51] [0,4,5,10,12] [10,14,15,57])
 (.aD [Qm 53 12,Qm 6 53] [0,4,5,6,10] [10,14,15,57])))) (.skip)))
 (.seq (.aD [Qm 54 5,QL 55 2 10,Q 56 (.cd 2 1 [.int .i64 0,.int .i64 0] [(0,.t 55)]),Q 57 (.app 2 16 (.t 54) (.t 56)),Qm 5 57] [0,4,5,6] [14,15,57])
 (.seq (.seq (.aD [Qm 58 5,Q 59 (.len (.t 58)),Q 60 (.bin .gtr (.t 59) (kI 8))] [0,4,5,6,60] [14,15,57])
 (.cond (.t 60) (.seq (.aD [Qm 61 4,Qm 2 61,Qb 3 false] [2,3] [2,14,15,57])
 (.ret)) (.skip)))
 (.seq (.seq (.aD [Qm 62 6,Qm 63 0,Q 64 (.fC (.t 63)),Q 65 (.bin .eql (.t 62) (.t 64))] [0,4,5,6,65] [14,15,57])
 (.cond (.t 65) (.seq (.aD [Qm 66 5,Qm 2 66,Qb 3 true] [2,3] [2,14,15,57])
 (.ret)) (.skip)))
 (.seq (.seq (.aD [Qm 67 0,Qm 68 6,Q 69 (.idx (.t 67) (.t 68)),Q 70 (.bin .neq (.t 69) (.k (.int .u8 44)))] [0,4,5,6,70] [14,15,57])
 (.cond (.t 70) (.seq (.aD [Qm 71 4,Qm 2 71,Qb 3 false] [2,3] [2,14,15,57])
 (.ret)) (.skip)))
 (.aD [Qm 72 6,Q 73 (.bin .add (.t 72) (kI 1)),Qm 6 73] [0,4,5,6] [14,15,57]))))))))))
def al.b:C:= .seq (.aD [Q 2 (.nil 2),Qb 3 false] [0] [])
 (.seq (.aD [Q 14 (.cd 2 0 [.int .i64 0,.int .i64 0] []),Qm 4 14] [0,4] [14])
 (.seq (.aD [Q 15 (.cd 2 0 [.int .i64 0,.int .i64 0] []),Qm 5 15] [0,4,5] [14,15,57])
 (.seq (.aD [Qi 6 0] [0,4,5,6] [14,15,57])
 (.block 0 (.loop al.l0)))))
def al.m:Fn:={np:=1,body:=al.b,res:=[.tmp 2,.tmp 3]}
def al.k(M:Nat→Option Body):Prop:=M 322=some (.code al.m)∧ai.k M
def ba.b:C:= .seq (.aD [Q 2 (.mv (.k (.str ⟨#[]⟩)))] [0] [])
 (.seq (.seq (.aD [Qm 3 0,Q 4 (.bin .eql (.t 3) (kI 0))] [0,4] [])
 (.cond (.t 4) (.seq (.aD [Q 2 (.mv (.k (.str ⟨#[42]⟩)))] [2] [])
 (.ret)) (.skip)))
 (.seq (.aD [Qm 5 0,Q 6 (.call 128 [.t 5] [] []),Qm 2 6] [2] [])
 (.ret)))
def ba.m:Fn:={np:=1,body:=ba.b,res:=[.tmp 2]}
def ba.k(M:Nat→Option Body):Prop:=M 537=some (.code ba.m)∧aG.k M
def aQ.l0:C:= .seq (.aD [Q 9 (.bin .lss (.t 8) (.t 7))] [3,6,7,8,9] [])
 (.seq (.cond (.t 9) (.skip) (.exit 0))
 (.seq (.block 1 (.seq (.aD [Qm 10 8,Qa 11 2 6 8,QL 12 2 11,Q 5 (.alloc [.int .i64 0,.int .i64 0]),Qm 4 10,Qs 2 5 12] [3,4,5,6,7,8] [5])
 (.seq (.seq (.aD [Qm 13 4,Q 14 (.bin .gtr (.t 13) (kI 0))] [3,5,6,7,8,14] [5])
 (.cond (.t 14) (.aD [Qm 15 3,Q 16 (.bin .add (.t 15) (.k (.str ⟨#[44]⟩))),Qm 3 16] [3,5,6,7,8] [5]) (.skip)))
 (.seq (.aD [Qm 17 3,Qf 18 0 5,Ql 19 18,Q 20 (.call 537 [.t 19] [] []),Q 21 (.bin .add (.t 17) (.t 20)),Qm 3 21] [3,5,6,7,8] [5])
 (.seq (.aD [Qf 22 0 5,Ql 23 22,Qf 24 1 5,Ql 25 24,Q 26 (.bin .neq (.t 23) (.t 25))] [3,5,6,7,8,26] [5])
 (.cond (.t 26) (.aD [Qm 27 3,Q 28 (.bin .add (.t 27) (.k (.str ⟨#[58]⟩))),Qf 29 1 5,Ql 30 29,Q 31 (.call 537 [.t 30] [] []),Q 32 (.bin .add (.t 28) (.t 31)),Qm 3 32] [3,6,7,8] []) (.skip)))))))
 (.aD [Q 33 (.bin .add (.t 8) (kI 1)),Qm 8 33] [3,6,7,8] [])))
def aQ.b:C:= .seq (.aD [Q 2 (.mv (.k (.str ⟨#[]⟩)))] [0] [])
 (.seq (.aD [Q 3 (.mv (.k (.str ⟨#[]⟩)))] [0,3] [])
 (.seq (.seq (.aD [Qm 6 0,Q 7 (.len (.t 6)),Qi 8 0] [3,6,7,8] [])
 (.block 0 (.loop aQ.l0)))
 (.seq (.aD [Qm 34 3,Qm 2 34] [2] [])
 (.ret))))
def aQ.m:Fn:={np:=1,body:=aQ.b,res:=[.tmp 2]}
def aQ.k(M:Nat→Option Body):Prop:=M 529=some (.code aQ.m)∧ba.k M
def bj.b:C:= .seq (.aD [Q 2 (.mv (.k (.str ⟨#[]⟩)))] [0] [])
 (.seq (.seq (.aD [Qm 3 0,Q 4 (.bin .leq (.t 3) (kI 0))] [0,4] [])
 (.cond (.t 4) (.seq (.aD [Q 2 (.mv (.k (.str ⟨#[42]⟩)))] [2] [])
 (.ret)) (.skip)))
 (.seq (.aD [Qm 5 0,Q 6 (.call 197 [.t 5] [] []),Qm 2 6] [2] [])
 (.ret)))
def bj.m:Fn:={np:=1,body:=bj.b,res:=[.tmp 2]}
def bj.k(M:Nat→Option Body):Prop:=M 540=some (.code bj.m)∧aA.k M
def aL.l0:C:= .seq (.seq (.aD [Qm 5 4,Qm 6 0,Q 7 (.len (.t 6)),Q 8 (.bin .lss (.t 5) (.t 7))] [0,3,4,8] [])
 (.cond (.t 8) (.skip) (.exit 0)))
 (.seq (.block 1 (.seq (.seq (.aD [Qm 11 4,Q 12 (.bin .gtr (.t 11) (kI 0))] [0,3,4,12] [])
 (.cond (.t 12) (.aD [Qm 13 3,Q 14 (.bin .add (.t 13) (.k (.str ⟨#[44]⟩))),Qm 3 14] [0,3,4] []) (.skip)))
 (.seq (.aD [Qm 15 3,Qm 16 0,Qm 17 4,Qa 18 2 16 17,Qf 19 0 18,Ql 20 19,Q 21 (.call 540 [.t 20] [] []),Q 22 (.bin .add (.t 15) (.t 21)),Qm 3 22] [0,3,4] [])
 (.seq (.gC [Qm 23 0,Qm 24 4,Qa 25 2 23 24,Qf 26 1 25,Ql 27 26,Qm 28 0,Qm 29 4,Qa 30 2 28 29,Qf 31 0 30,Ql 32 31,Q 33 (.bin .neq (.t 27) (.t 32))] [[],[],[0,1],[0,1,2],lr 4,[],[],[5,6],[5,6,7],[5,6,7,8],lr 10] [0,3,4,33] [])
 (.cond (.t 33) (.aD [Qm 34 3,Q 35 (.bin .add (.t 34) (.k (.str ⟨#[58]⟩))),Qm 36 0,Qm 37 4,Qa 38 2 36 37,Qf 39 1 38,Ql 40 39,Q 41 (.call 540 [.t 40] [] []),Q 42 (.bin .add (.t 35) (.t 41)),
   Qm 3 42] [0,3,4] []) (.skip))))))
 (.aD [Qm 9 4,Q 10 (.bin .add (.t 9) (kI 1)),Qm 4 10] [0,3,4] []))
def aL.b:C:= .seq (.aD [Q 2 (.mv (.k (.str ⟨#[]⟩)))] [0] [])
 (.seq (.aD [Q 3 (.mv (.k (.str ⟨#[]⟩)))] [0,3] [])
 (.seq (.seq (.aD [Qi 4 0] [0,3,4] [])
 (.block 0 (.loop aL.l0)))
 (.seq (.aD [Qm 43 3,Qm 2 43] [2] [])
 (.ret))))
def aL.m:Fn:={np:=1,body:=aL.b,res:=[.tmp 2]}
def aL.k(M:Nat→Option Body):Prop:=M 535=some (.code aL.m)∧bj.k M
end Mx
namespace Mx
open Go Go.RowKit
def x0(F:Nat→FuncId)(w:World):Cx:={w:=w,U:=fun _=>False,E:=fun _=>none,F:=F}
theorem mU{P:Program}{F:Nat→FuncId}{M:Nat→Option Body}(hM:fB P F M){f:Nat}{as:List V}{b:Bool}(h:run M f as []=some (.c (.bool b),[])){vals:Array Value}{w:World}
  (hG:l_ F (fun _=>False) w) (hn:as.length=vals.size) (hr:∀(i:Nat) (v:V) (x:Value),as[i]? =some v→vals[i]? =some x→bW (x0 F w) v x):
  Calls P (F f) vals w fun e W'=>e= .returned (.bool b)∧Below w.heap.size w W':=by
 obtain⟨_,hc⟩:=q_ hM f as [] _ _ h;have K:cV (x0 F w) (cx F (fun _=>False) (fun _=>none) [] w):=by
  refine⟨rfl,fun v l h=>(by cases h),fun ad v _ hcell=>⟨hcell, ?_⟩⟩;rintro (⟨id,ob,cap,sz,g1,_⟩|h)
  ·simp[get] at g1
  ·exact h
 have En:Entry F (fun _=>False) (fun _=>none) as [] vals w:=
  ⟨hn,fun i v x h1 h2=>(hr i v x h1 h2).mono K,fun p ob h=>(by simp[get] at h),fun p ob b cap sz h=>(by simp[get] at h),fun p p2 ob ob2 b cap sz cap2 sz2 h=>(by simp[get] at h),fun v l h=>(by cases h),⟨fun b h=>h.elim,hG.imp id fun g=>⟨g.1,fun⟨p,ob,cap,sz,h1,_⟩=>by simp[get] at h1,g.2.2⟩⟩⟩
 refine(hc (fun _=>False) (fun _=>none) vals w En).mono ?_;rintro e w' ⟨val,E',own,rfl,B⟩;have hres:=B.res;have hv:val= .bool b:=by
  simp only[qL,ku] at hres;cases hres with|bool b=>rfl
 refine⟨by rw[hv],B.os,B.tape,B.output,B.size,fun k hk=>B.frame k hk ?_⟩;rintro ⟨p,ob,cap,sz,h1,_⟩;simp[get] at h1
end Mx
namespace Mx
open Go
inductive Ct where
 |int (k:IntKind)
 |bool
 |str
 |sl (row:List Ct)
inductive Has:Ct→T→Prop
 |int (k:IntKind) (n:Int) (h:(Lit.int k n).wf=true):Has (.int k) (.int k n)
 |bool (b:Bool):Has .bool (.bool b)
 |str (s:ByteArray) (h:s.size≤maxLen):Has .str (.str s)
 |sl (row:List Ct) (rows:List (List T)) (hl:rows.length≤maxLen) (h:∀(i:Nat) (r:List T),rows[i]? =some r→r.length=row.length)
   (h2:∀(i j:Nat) (r:List T) (c:Ct) (t:T),rows[i]? =some r→row[j]? =some c→r[j]? =some t→Has c t):Has (.sl row) (.sl false row.length rows)
def ig(cs:List Ct)(ts:List T):Prop:=ts.length=cs.length∧∀(j:Nat) (c:Ct) (t:T),cs[j]? =some c→ts[j]? =some t→Has c t
mutual
def ka(P:Program):Nat→Ct→TypeId→Bool
 |0,_,_=>false
 |_+1,.int k,t=>iZ P t k
 |_+1,.bool,t=>iq P t
 |_+1,.str,t=>fi P t
 |f+1,.sl row,t=>match bF P t with|some e=>iS P f row e&&(P.cellsOf e==row.length)|none=>false
def iS(P:Program):Nat→List Ct→TypeId→Bool
 |0,_,_=>false
 |f+1,cs,t=>match dU P t with
  |some fs=>(P.cellsOf t==cs.length)&&eg P f 0 cs fs.toList
  |none=>match cs with|[c]=>ka P f c t|_=>false
def eg(P:Program):Nat→Nat→List Ct→List Field→Bool
 |0,_,_,_=>false
 |_+1,_,cs,[]=>cs.isEmpty
 |f+1,off,cs,fd::fs=>(fd.offset==off)&&decide (P.cellsOf fd.type≤cs.length)&&iS P f (cs.take (P.cellsOf fd.type)) fd.type&&eg P f (off+P.cellsOf fd.type) (cs.drop (P.cellsOf fd.type)) fs
end
variable {P:Program} {F:Nat→FuncId} {w:World} {H:Type} {enc:TypeId×Value→H} {base:Nat} {sp:Nat→Bool} {held:Bool}
theorem ig.one{c:Ct}{t:T}(h:Has c t):ig [c] [t]:=⟨rfl,fun j c' t' h1 h2=>by
 cases j with
 |zero=>simp at h1 h2;subst h1 h2;exact h
 |succ j=>simp at h1⟩
theorem ig.append{cs ds:List Ct}{ts us:List T}(h:ig cs ts)(k:ig ds us):ig (cs++ds) (ts++us):=by
 refine⟨by simp[h.1,k.1],fun j c t h1 h2=> ?_⟩;rw[aW] at h1 h2;rw[h.1] at h2;split at h1
 ·rename_i hj;rw[if_pos hj] at h2;exact h.2 j c t h1 h2
 ·rename_i hj;rw[if_neg hj] at h2;exact k.2 _ c t h1 h2
theorem jv:∀(f:Nat),
  (∀(c:Ct) (t:TypeId) (vs:List Value) (fuel:Nat) (x:DataW H×List MemPlace),ka P f c t=true→DataW.trod enc P w base sp held fuel t vs=some x→∃u v,vs=[v]∧Has c u∧bN (x0 F w) u v)∧
  (∀(cs:List Ct) (t:TypeId) (vs:List Value) (fuel:Nat) (x:DataW H×List MemPlace),iS P f cs t=true→DataW.trod enc P w base sp held fuel t vs=some x→∃ts,ig cs ts∧bw (x0 F w) ts vs)∧
  (∀(off:Nat) (cs:List Ct) (fs:List Field) (vs:List Value),eg P f off cs fs=true→vs.length=off+cs.length→
   (∀fd∈fs,∃n x,DataW.trod enc P w base sp held n fd.type ((vs.drop fd.offset).take (P.cellsOf fd.type))=some (x:DataW H×List MemPlace))→∃ts,ig cs ts∧bw (x0 F w) ts (vs.drop off)):=by
 intro f
 induction f with
 |zero=>exact⟨fun c t vs fuel x h=>by simp[ka] at h,fun cs t vs fuel x h=>by simp[iS] at h,fun off cs fs vs h=>by simp[eg] at h⟩
 |succ f ih=>
  obtain⟨ih1,ih2,ih3⟩:=ih;have A:∀(c:Ct) (t:TypeId) (vs:List Value) (fuel:Nat) (x:DataW H×List MemPlace),ka P (f+1) c t=true→DataW.trod enc P w base sp held fuel t vs=some x→∃u v,vs=[v]∧Has c u∧bN (x0 F w) u v:=by
   intro c t vs fuel x hok h;cases fuel with
   |zero=>simp[DataW.trod] at h
   |succ n=>
    cases c with
    |int k=>
     have hu:=il hok;unfold DataW.trod at h;rw[hu] at h;split at h<;>simp_all
     rename_i k' m;obtain⟨⟨rfl,hwf⟩,_⟩:=h;exact⟨_,.int _ _ hwf,.int _ _⟩
    |bool=>
     have hu:=i_ hok;unfold DataW.trod at h;rw[hu] at h;split at h<;>simp_all
     exact⟨_,.bool _,.bool _⟩
    |str=>
     have hu:=fz hok;unfold DataW.trod at h;rw[hu] at h;split at h<;>simp_all
     exact⟨_,.str _ h.1,.str _⟩
    |sl row=>
     simp only[ka] at hok;split at hok
     ·rename_i e he;simp only[ae,beq_iff_eq] at hok;rcases Go.Deep.open_slice (bU he) h with⟨rfl,_⟩|⟨a,len,cap,m,n',D,Pl,rfl,hb,hl,hm,hmm,_,hx⟩
      ·exact⟨.sl false row.length [],_,rfl,.sl row [] (by simp) (fun i r h=>by simp at h) (fun i j r c t h=>by simp at h),bN.empty _ _ _ _⟩
      ·have hlm:len≤m:=by rw[hmm];split<;>omega
       have each:∀i,i<len→∃r cs',ig row r∧bw (x0 F w) r cs'∧∀q,q<row.length→w.cell? ((a.add (i*row.length)).add q)=cs'[q]? :=by
        intro i hi;obtain⟨cs',h1,h2⟩:=hx i (by omega);obtain⟨r,h3,h4⟩:=ih2 row e cs' n' _ hok.1 h2;obtain⟨_,h5,h6⟩:=World.cells?_some h1;rw[hok.2] at h6;exact⟨r,cs',h3,h4,h6⟩
       have hrows:∀k,k≤len→∃rows:List (List T),rows.length=k∧∀i r,rows[i]? =some r→∃cs',ig row r∧bw (x0 F w) r cs'∧∀q,q<row.length→w.cell? ((a.add (i*row.length)).add q)=cs'[q]? :=by
        intro k
        induction k with
        |zero=>intro _;exact⟨[],rfl,fun i r h=>by simp at h⟩
        |succ k ihl=>
         intro hk;obtain⟨rows,h1,h2⟩:=ihl (by omega);obtain⟨r,cs',h3,h4,h5⟩:=each k (by omega);refine⟨rows++[r],by simp[h1],fun i r' hr=> ?_⟩;rw[aW] at hr;split at hr
         ·exact h2 i r' hr
         ·rename_i hge;have:i-rows.length=0:=by
           rcases Nat.eq_zero_or_pos (i-rows.length) with q|q
           ·exact q
           ·rw[cz (by simp;omega)] at hr;cases hr
          rw[this] at hr;simp at hr;subst hr;have:i=k:=by omega
          subst this;exact⟨cs',h3,h4,h5⟩
       obtain⟨rows,hlen,hrow⟩:=hrows len (Nat.le_refl _);have key:∀(i j:Nat) (r:List T) (t:T),rows[i]? =some r→r[j]? =some t→∃v,w.cell? (a.add (i*row.length+j))=some v∧bN (x0 F w) t v:=by
        intro i j r t hi hj;obtain⟨cs',h3,h4,h5⟩:=hrow i r hi;have hjl:j<r.length:=(List.getElem?_eq_some_iff.1 hj).1;have h6:=h5 j (by rw[←h3.1];exact hjl);have hjc:j<cs'.length:=by rw[←h4.1];exact hjl
        rw[add_add] at h6;refine⟨cs'[j],by rw[h6];simp[hjc],h4.2 j t cs'[j] hj (by simp[hjc])⟩
       have hcl:∀(c:Ct) (t:T),Has c t→a7 t:=by
        intro c t h
        induction h with
        |int=>exact .int _ _
        |bool=>exact .bool _
        |str=>exact .str _
        |sl row rows hl h h2 ih=>
         refine .sl _ _ _ fun i j r t hr ht=> ?_
         have hj:j<row.length:=by rw[←h i r hr];exact(List.getElem?_eq_some_iff.1 ht).1
         exact ih i j r row[j] t hr (by simp[hj]) ht
       refine⟨.sl false row.length rows,_,rfl,.sl row rows (by omega) (fun i r hr=>(hrow i r hr).choose_spec.1.1) (fun i j r c t hr hc ht=>(hrow i r hr).choose_spec.1.2 j c t hc ht), ?_⟩;have:=bN.sl (X:=x0 F w) false row.length rows (some a) cap (fun i j=>(w.cell? (a.add (i*row.length+j))).getD undef) (by omega) (fun i r hr=>(hrow i r hr).choose_spec.1.1)
        (fun i j r t hr ht=>by obtain⟨v,h1,_⟩:=key i j r t hr ht;exact⟨a,rfl,fun h=>h,by show w.cell? _=_;rw[h1];rfl⟩)
        (fun i j r t hr ht=>by obtain⟨v,h1,h2⟩:=key i j r t hr ht;rw[h1];exact h2)
        (fun i j r t hr ht=>by
         obtain⟨cs',h3,_⟩:=hrow i r hr;have hj:j<row.length:=by rw[←h3.1];exact(List.getElem?_eq_some_iff.1 ht).1
         exact hcl _ _ (h3.2 j row[j] t (by simp[hj]) ht))
       rw[hlen] at this;exact this
     ·cases hok
  refine⟨A, ?_, ?_⟩
  ·intro cs t vs fuel x hok h;simp only[iS] at hok;split at hok
   ·rename_i fs hfs;simp only[ae,beq_iff_eq] at hok;obtain⟨xs,n,_,_,hlen,hxl,hxs⟩:=DataW.trod_struct (eb hfs) h;obtain⟨ts,h1,h2⟩:=ih3 0 cs fs.toList vs hok.2 (by omega) (fun fd hfd=>by
     obtain⟨i,hi⟩:=List.getElem?_of_mem hfd;have hi':fs[i]? =some fd:=by simpa using hi
     have:=hxs i fd hi';have hlt:i<xs.length:=by rw[hxl];exact(Array.getElem?_eq_some_iff.1 hi').1
     exact⟨n,xs[i],by rw[this];simp[hlt]⟩)
    exact⟨ts,h1,by simpa using h2⟩
   ·split at hok
    ·rename_i c;obtain⟨u,v,rfl,h1,h2⟩:=ih1 c t vs fuel x hok h;exact⟨[u],.one h1,.cons h2 (.nil _)⟩
    ·cases hok
  ·intro off cs fs vs hok hlen hfd;cases fs with
   |nil=>
    simp only[eg,List.isEmpty_iff] at hok;subst hok;refine⟨[],⟨rfl,fun j c t h=>by simp at h⟩, ?_⟩;rw[dS (by simp at hlen;omega)];exact .nil _
   |cons fd fs=>
    simp only[eg,ae,beq_iff_eq,decide_eq_true_eq] at hok;obtain⟨⟨⟨h1,hk⟩,h2⟩,h3⟩:=hok;obtain⟨n,x,hx⟩:=hfd fd (a8 ..);obtain⟨ts1,k1,k2⟩:=ih2 _ _ _ _ _ h2 hx;have hl1:=k1.1;have hl2:=k2.1;rw[h1] at k2 hl2;obtain⟨ts2,m1,m2⟩:=ih3 (off+P.cellsOf fd.type) (cs.drop (P.cellsOf fd.type)) fs vs h3 (by simp;omega) (fun fd' h=>hfd fd' (aV _ h));refine⟨ts1++ts2, ?_, ?_⟩
    ·have:=k1.append m1
     rwa [ea] at this
    ·have:=k2.append m2;rw[←List.drop_drop,ea] at this;exact this
theorem l6{f:Nat}{cs:List Ct}{t:TypeId}{fs:Array Field}{v:Value}{d:DataW H}{ps:List MemPlace}{r:Reach}{b:Nat}{w':World}(hs:dU P t=some fs)(hok:iS P f cs t=true)
  (hv:Value.okWide P w' r b t v) (h:DataW.Trod enc P w base sp held t v d ps):∃ts,ig cs ts∧bW (x0 F w) (.a ts) v:=by
 obtain⟨fuel,h⟩:=h;obtain⟨ts,h1,h2⟩:=(jv (F:=F) f).2.1 cs t _ fuel _ hok h;unfold Value.okWide at hv;rw[eb hs] at hv;obtain⟨vs,rfl,_⟩:=hv;refine⟨ts,h1, ?_⟩;have:=bW.rH h2;simpa [Value.cells] using this
theorem nu{v u:Value}(h:v.cells.toList=[u])(hn:∀cs,v≠.agg cs):v=u:=by
 cases v with
 |agg cs=>exact(hn cs rfl).elim
 |_=>simp[Value.cells] at h;exact h
theorem oS{f:Nat}{c:Ct}{t:TypeId}{v:Value}{d:DataW H}{ps:List MemPlace}{r:Reach}{b:Nat}{w':World}(hok:ka P f c t=true)
  (hv:Value.okWide P w' r b t v) (h:DataW.Trod enc P w base sp held t v d ps):∃u,Has c u∧bN (x0 F w) u v:=by
 obtain⟨fuel,h⟩:=h;obtain⟨u,x,h0,h1,h2⟩:=(jv (F:=F) f).1 c t _ fuel _ hok h;have:v=x:=by
  refine nu h0 fun cs e=> ?_
  subst e;cases f with
  |zero=>simp[ka] at hok
  |succ f=>
   cases c with
   |int k=>simp[Value.okWide,Cell.okWide,il hok,Cell.ok] at hv
   |bool=>simp[Value.okWide,Cell.okWide,i_ hok,Cell.ok] at hv
   |str=>simp[Value.okWide,Cell.okWide,fz hok,Cell.ok] at hv
   |sl row=>
    simp only[ka] at hok;split at hok
    ·rename_i e he;simp[Value.okWide,Cell.okWide,bU he,Cell.ok] at hv
    ·cases hok
 rw[this];exact⟨u,h1,h2⟩
end Mx
namespace Mx
open Go Go.RowKit Go.ChangeShapes
inductive Ak where
 |cell (c:Ct)
 |struct (cs:List Ct)
inductive qM:Ak→V→Prop
 |cell {c:Ct} {u:T} (h:Has c u):qM (.cell c) (.c u)
 |struct {cs:List Ct} {ts:List T} (h:ig cs ts):qM (.struct cs) (.a ts)
inductive jT:List Ak→List V→Prop
 |nil:jT [] []
 |cons {k:Ak} {v:V} {ks:List Ak} {vs:List V} (h:qM k v) (hs:jT ks vs):jT (k::ks) (v::vs)
def kM(P:Program)(f:Nat):Ak→TypeId→Bool
 | .cell c,t=>ka P f c t&&P.readableRec t&&decide (t<P.types.size)
 | .struct cs,t=>(dU P t).isSome&&iS P f cs t&&P.readableRec t&&decide (t<P.types.size)
def gE(P:Program)(f:Nat):List Ak→List TypeId→Bool
 |[],[]=>true
 |k::ks,t::ts=>kM P f k t&&gE P f ks ts
 |_,_=>false
variable {P:Program} {F:Nat→FuncId} {w:World} {H:Type} {enc:TypeId×Value→H}
theorem lJ{f:Nat}{k:Ak}{t:TypeId}(h:kM P f k t=true):P.readableRec t=true∧t<P.types.size:=by
 cases k<;>simp only[kM,ae,decide_eq_true_eq] at h
 ·exact⟨h.1.2,h.2⟩
 ·exact⟨h.1.2,h.2⟩
theorem l5{f:Nat}{w':World}{r:Reach}{b:Nat}{base:Nat}{sp:Nat→Bool}{held:Bool}:∀(ks:List Ak) (ts:List TypeId) (vs:List Value) (ds:List (DataW H)) (ps:List MemPlace),gE P f ks ts=true→
  DataW.TrodAll enc P w base sp held ts vs ds ps→(∀(j:Nat) t v,ts[j]? =some t→vs[j]? =some v→Value.okWide P w' r b t v)→
  ∃as,jT ks as∧as.length=vs.length∧ds.length=ks.length∧∀(i:Nat) (v:V) (x:Value),as[i]? =some v→vs[i]? =some x→bW (x0 F w) v x:=by
 intro ks
 induction ks with
 |nil=>
  intro ts vs ds ps hok h _;cases ts with
  |cons=>cases hok
  |nil=>
   obtain⟨rfl,rfl,_⟩:=trodAll_nil h;exact⟨[],.nil,rfl,rfl,fun i v x h=>by simp at h⟩
 |cons k ks ih=>
  intro ts vs ds ps hok h hv;cases ts with
  |nil=>cases hok
  |cons t ts=>
   simp only[gE,ae] at hok;obtain⟨v,vs',d,ds',p,q,rfl,rfl,rfl,h1,h2⟩:=trodAll_cons h;obtain⟨as,g1,g2,g3,g4⟩:=ih ts vs' ds' q hok.2 h2 (fun j t v h1 h2=>hv (j+1) t v (by simpa using h1) (by simpa using h2));have hv0:=hv 0 t v rfl rfl;have hk:∃a,qM k a∧bW (x0 F w) a v:=by
    cases k with
    |cell c=>
     have ho:=hok.1;simp only[kM,ae] at ho;obtain⟨u,k1,k2⟩:=oS (F:=F) ho.1.1 hv0 h1;exact⟨.c u,.cell k1,.c _ _ k2⟩
    |struct cs=>
     have ho:=hok.1;simp only[kM,ae] at ho;obtain⟨fs,hfs⟩:=Option.isSome_iff_exists.1 ho.1.1.1;obtain⟨ts',k1,k2⟩:=l6 (F:=F) hfs ho.1.1.2 hv0 h1;exact⟨.a ts',.struct k1,k2⟩
   obtain⟨a,k1,k2⟩:=hk;refine⟨a::as,.cons k1 g1,by simp[g2],by simp[g3],fun i v' x h1 h2=> ?_⟩;cases i with
   |zero=>simp at h1 h2;subst h1 h2;exact k2
   |succ i=>exact g4 i v' x (by simpa using h1) (by simpa using h2)
theorem lx{f:Nat}(hl:laidOutB P=true){W':World}(hb:Below w.heap.size w W'):∀(ks:List Ak) (ts:List TypeId) (vs:List Value) (ds:List (DataW H)) (ps:List MemPlace),gE P f ks ts=true→
  DataW.TrodAll enc P w 0 (fun _=>true) true ts vs ds ps→(∀x∈ps,x.block<w.heap.size)→DataW.TrodAll enc P W' 0 (fun b=>decide (b<w.heap.size)) true ts vs ds ps:=by
 intro ks
 induction ks with
 |nil=>
  intro ts vs ds ps hok h _;cases ts with
  |cons=>cases hok
  |nil=>
   obtain⟨rfl,rfl,rfl⟩:=trodAll_nil h;exact trodAll_mk0
 |cons k ks ih=>
  intro ts vs ds ps hok h hlt;cases ts with
  |nil=>cases hok
  |cons t ts=>
   simp only[gE,ae] at hok;obtain⟨v,vs',d,ds',p,q,rfl,rfl,rfl,h1,h2⟩:=trodAll_cons h;obtain⟨r1,r2⟩:=lJ hok.1;exact trodAll_cons_mk (Below.trod hl r1 r2 h1 hb (fun x hx=>hlt x (List.mem_append_left _ hx))) (ih ts vs' ds' q hok.2 h2 (fun x hx=>hlt x (List.mem_append_right _ hx)))
def sv(num:List (Nat×Nat))(f:Nat):FuncId:=(get num f).getD 0
end Mx
namespace Mx
open Go
def rS:T→Option Value
 | .int k n=>some (.int k n)
 | .bool b=>some (.bool b)
 | .str s=>some (.string s)
 |_=>none
variable {P:Program} {F:Nat→FuncId}
theorem gf{X:Cx}{t:T}{v x:Value}(h:bW X (.c t) x)(hv:rS t=some v):x=v:=by
 cases h with|c _ _ h=>
 cases t<;>simp[rS] at hv<;>subst hv<;>cases h<;>rfl
end Mx
namespace Mx
open Go
variable {M:Nat→Option Body}
def cF(l:List Int):List (List T):=l.map fun n=>[I n]
abbrev ints(l:List Int):T:= .sl false 1 (cF l)
theorem ja(l:List Int):(cF l).length=l.length:=by simp[cF]
theorem mq(l:List Int)(i:Nat)(h:i<(cF l).length):(cF l)[i]=[I (l[i]'(by simpa [cF] using h))]:=by simp[cF]
theorem kS(a b:List Int):cF a++cF b=cF (a++b):=by simp[cF]
theorem oq:cF []=[]:=rfl
theorem na(l:List Int)(n:Nat):(cF l).take n=cF (l.take n):=by simp[cF]
attribute [simp] ja mq kS oq na
def upto(k:Int):Nat→List Int
 |0=>[]
 |n+1=>upto k n++[k+n]
theorem nO(k:Int)(n:Nat):(upto k n).length=n:=by
 induction n with
 |zero=>rfl
 |succ n ih=>simp[upto,ih]
attribute [simp] nO
theorem nc(l:List Int):(cF l).all (fun r=>r.all T.scalar)=true:=by
 simp only[cF,List.all_map,au];intro n _;rfl
attribute [simp] nc
end Mx
namespace Mx
open Go
variable {P:Program} {F:Nat→FuncId}
def qZ(tab:List (Nat×Fn))(ext:List (Nat×(List V→List (Nat×Ob)→Option (V×List (Nat×Ob)))))(f:Nat):Option Body:=match get tab f with
 |some b=>some (.code b)
 |none=>(get ext f).map fun g=> .ext g
theorem lA{tab:List (Nat×Fn)}{ext:List (Nat×(List V→List (Nat×Ob)→Option (V×List (Nat×Ob))))}(h:∀p∈tab,bE P F p.1 p.2=true)(hx:∀p∈ext,jU P F p.1 p.2):fB P F (qZ tab ext):=by
 intro f;unfold qZ;cases hg:get tab f with
 |some b=>exact h _ (get_mem hg)
 |none=>
  cases hq:get ext f with
  |none=>simp
  |some g=>exact hx _ (get_mem hq)
end Mx
namespace Mx
open Go
def aT.l0:C:= .seq (.seq (.aD [Qm 11 5,Qm 12 0,Q 13 (.len (.t 12)),Q 14 (.bin .lss (.t 11) (.t 13))] [0,1,5,14] [])
 (.cond (.t 14) (.skip) (.exit 0)))
 (.seq (.block 1 (.seq (.gC [Qm 17 0,Qm 18 5,Qa 19 1 17 18,Ql 20 19,Qm 21 1,Qm 22 5,Qa 23 1 21 22,Ql 24 23,Q 25 (.bin .neq (.t 20) (.t 24))] [[],[],[0,1],[0,1,2],[],[],[4,5],[4,5,6],lr 8] [0,1,5,25] [])
 (.cond (.t 25) (.seq (.aD [Qb 4 false] [4] [])
 (.ret)) (.skip))))
 (.aD [Qm 15 5,Q 16 (.bin .add (.t 15) (kI 1)),Qm 5 16] [0,1,5] []))
def aT.b:C:= .seq (.aD [Qb 4 false] [0,1] [])
 (.seq (.seq (.aD [Qm 6 0,Q 7 (.len (.t 6)),Qm 8 1,Q 9 (.len (.t 8)),Q 10 (.bin .neq (.t 7) (.t 9))] [0,1,10] [])
 (.cond (.t 10) (.seq (.aD [Qb 4 false] [4] [])
 (.ret)) (.skip)))
 (.seq (.seq (.aD [Qi 5 0] [0,1,5] [])
 (.block 0 (.loop aT.l0)))
 (.seq (.aD [Qb 4 true] [4] [])
 (.ret))))
def aT.m:Fn:={np:=2,body:=aT.b,res:=[.tmp 4]}
def aT.k(M:Nat→Option Body):Prop:=M 158=some (.code aT.m)
def aF.l0:C:= .seq (.seq (.aD [Qm 8 4,Qm 9 0,Q 10 (.len (.t 9)),Q 11 (.bin .lss (.t 8) (.t 10)),Qm 12 11,Qg 13 (.mv (.t 4)) 12 true,Qg 14 (.bin .lss (.t 13) (kI 4000)) 12 true,
    Q 15 (.pick (.t 12) (.t 14) (kB false))] [0,3,4,15] [])
 (.cond (.t 15) (.skip) (.exit 0)))
 (.seq (.block 1 (.aD [Qm 18 3,Q 19 (.bin .mul (.t 18) (kI 131)),Qm 20 0,Qm 21 4,Qa 22 1 20 21,Ql 23 22,Q 24 (.lQ .i64 (.t 23)),Q 25 (.bin .add (.t 19) (.t 24)),Q 26 (.bin .add (.t 25) (kI 7)),
   Q 27 (.bin .and (.t 26) (kI 1073741823)),Qm 3 27] [0,3,4] []))
 (.aD [Qm 16 4,Q 17 (.bin .add (.t 16) (kI 1)),Qm 4 17] [0,3,4] []))
def aF.b:C:= .seq (.aD [Q 2 (.np)] [0] [])
 (.seq (.aD [Qm 5 0,Q 6 (.len (.t 5)),Q 7 (.bin .add (kI 77201) (.t 6)),Qm 3 7] [0,3] [])
 (.seq (.seq (.aD [Qi 4 0] [0,3,4] [])
 (.block 0 (.loop aF.l0)))
 (.seq (.aD [Qm 28 0,Qm 29 3,Q 30 (.build [.dm 1,.int .i64 0,.int .i64 0] [(0,1,.t 28),(2,1,.t 29)]),Qv 31 30,Qm 2 31] [2] [31])
 (.ret))))
def aF.m:Fn:={np:=1,body:=aF.b,res:=[.tmp 2]}
def aF.k(M:Nat→Option Body):Prop:=M 124=some (.code aF.m)
def aS.b:C:= .seq (.aD [Qi 2 0] [0] [0])
 (.seq (.aD [Qm 4 0,Qm 5 0,Q 6 (.fD (.t 5)),Qf 7 2 6,Ql 8 7,Q 9 (.bin .mul (.t 8) (kI 6364136223846793005)),Q 10 (.bin .add (.t 9) (kI 1442695040888963407)),Q 11 (.fD (.t 4)),
   Qf 12 2 11,Qs 1 12 10] [0] [0])
 (.seq (.gC [Qm 13 0,Q 14 (.fD (.t 13)),Qf 15 2 14,Ql 16 15,Q 17 (.bin .shr (.t 16) (.k (.int .u64 33))),Qm 18 0,Q 19 (.fD (.t 18)),Qf 20 2 19,Ql 21 20,
   Q 22 (.bin .shr (.t 21) (.k (.int .u64 45))),Q 23 (.bin .xor (.t 17) (.t 22)),Q 24 (.bin .and (.t 23) (kI 255)),Qm 3 24] [[],[0],[0,1],[0,1,2],lr 4,[],[5],[5,6],[5,6,7],[5,6,7,8],lr 10,lr 11,lr 12] [0,3] [0])
 (.seq (.seq (.gC [Qm 25 0,Q 26 (.fD (.t 25)),Qf 27 1 26,Ql 28 27,Qm 29 0,Q 30 (.fD (.t 29)),Qf 31 0 30,Ql 32 31,Q 33 (.len (.t 32)),Q 34 (.bin .lss (.t 28) (.t 33))] [[],[0],[0,1],[0,1,2],[],[4],[4,5],[4,5,6],[4,5,6,7],lr 9] [0,3,34] [0])
 (.cond (.t 34) (.seq (.gC [Qm 35 3,Qm 36 0,Q 37 (.fD (.t 36)),Qf 38 0 37,Ql 39 38,Qm 40 0,Q 41 (.fD (.t 40)),Qf 42 1 41,Ql 43 42,Qa 44 1 39 43,Ql 45 44,Q 46 (.lQ .i64 (.t 45)),
   Q 47 (.bin .add (.t 35) (.t 46)),Q 48 (.bin .and (.t 47) (kI 255)),Qm 3 48] [[],[],[1],[1,2],[1,2,3],[],[5],[5,6],[5,6,7],[1,2,3,4,5,6,7,8],[1,2,3,4,5,6,7,8,9],[1,2,3,4,5,6,7,8,9,10],lr 12,lr 13,lr 14] [0,3] [0])
 (.aD [Qm 49 0,Qm 50 0,Q 51 (.fD (.t 50)),Qf 52 1 51,Ql 53 52,Q 54 (.bin .add (.t 53) (kI 1)),Q 55 (.fD (.t 49)),Qf 56 1 55,Qs 1 56 54] [3] [0])) (.skip)))
 (.seq (.aD [Qm 57 3,Qm 2 57] [2] [0])
 (.ret)))))
def aS.m:Fn:={np:=1,body:=aS.b,res:=[.tmp 2]}
def aS.k(M:Nat→Option Body):Prop:=M 131=some (.code aS.m)
def ar.b:C:= .seq (.aD [Qi 4 0] [0,1] [0])
 (.seq (.seq (.aD [Qm 9 1,Q 10 (.bin .leq (.t 9) (kI 0))] [0,1,10] [0])
 (.cond (.t 10) (.seq (.aD [Qi 4 0] [4] [0])
 (.ret)) (.skip)))
 (.seq (.seq (.aD [Qm 11 1,Q 12 (.bin .leq (.t 11) (kI 256))] [0,1,12] [0])
 (.cond (.t 12) (.seq (.aD [Qm 13 0,Q 14 (.call 131 [.t 13] [0] []),Qm 15 1,Q 16 (.bin .rem (.t 14) (.t 15)),Qm 4 16] [4] [0])
 (.ret)) (.skip)))
 (.seq (.aD [Qm 17 0,Q 18 (.call 131 [.t 17] [0] []),Qm 5 18] [0,1,5] [0])
 (.seq (.aD [Qm 19 0,Q 20 (.call 131 [.t 19] [0] []),Qm 6 20] [0,1,5,6] [0])
 (.seq (.aD [Qm 21 0,Q 22 (.call 131 [.t 21] [0] []),Qm 7 22] [0,1,5,6,7] [0])
 (.seq (.aD [Qm 23 0,Q 24 (.call 131 [.t 23] [0] []),Qm 8 24] [1,5,6,7,8] [0])
 (.seq (.aD [Qm 25 5,Q 26 (.bin .mul (.t 25) (kI 16777216)),Qm 27 6,Q 28 (.bin .mul (.t 27) (kI 65536)),Q 29 (.bin .add (.t 26) (.t 28)),Qm 30 7,Q 31 (.bin .mul (.t 30) (kI 256)),
   Q 32 (.bin .add (.t 29) (.t 31)),Qm 33 8,Q 34 (.bin .add (.t 32) (.t 33)),Qm 35 1,Q 36 (.bin .rem (.t 34) (.t 35)),Qm 4 36] [4] [0])
 (.ret))))))))
def ar.m:Fn:={np:=2,body:=ar.b,res:=[.tmp 4]}
def ar.k(M:Nat→Option Body):Prop:=M 125=some (.code ar.m)∧aS.k M
def bC.b:C:= .seq (.aD [Q 4 (.mv (.k (.str ⟨#[]⟩)))] [0,1] [0])
 (.seq (.aD [Qm 5 1,Qm 6 0,Qm 7 1,Q 8 (.len (.t 7)),Q 9 (.call 125 [.t 6,.t 8] [0] []),Qa 10 1 5 9,Ql 11 10,Qm 4 11] [4] [0])
 (.ret))
def bC.m:Fn:={np:=2,body:=bC.b,res:=[.tmp 4]}
def bC.k(M:Nat→Option Body):Prop:=M 185=some (.code bC.m)∧ar.k M
def az.l0:C:= .seq (.seq (.aD [Qm 11 5,Q 12 (.bin .lss (.t 11) (kI 12))] [3,4,5,12] [10,19,10700])
 (.cond (.t 12) (.skip) (.exit 0)))
 (.seq (.block 1 (.aD [Qm 15 4,Qm 16 3,Q 17 (.call 125 [.t 16,kI 10000] [0] []),Q 18 (.cd 1 1 [.int .i64 0] [(0,.t 17)]),Q 19 (.app 1 8 (.t 15) (.t 18)),Qm 4 19] [3,4,5] [10,19,10700]))
 (.aD [Qm 13 5,Q 14 (.bin .add (.t 13) (kI 1)),Qm 5 14] [3,4,5] [10,19,10700]))
def az.b:C:= .seq (.aD [Q 2 (.nil 1)] [0] [])
 (.seq (.aD [Qm 6 0,Q 7 (.call 124 [.t 6] [] [(0,10700)]),Qm 3 7] [3] [10700])
 (.seq (.aD [Qm 8 3,Q 9 (.call 131 [.t 8] [0] [])] [3] [10700])
 (.seq (.aD [Q 10 (.cd 1 0 [.int .i64 0] []),Qm 4 10] [3,4] [10,19,10700])
 (.seq (.seq (.aD [Qi 5 0] [3,4,5] [10,19,10700])
 (.block 0 (.loop az.l0)))
 (.seq (.aD [Qm 20 4,Qm 2 20] [2] [2,10,19])
 (.ret))))))
def az.m:Fn:={np:=1,body:=az.b,res:=[.tmp 2]}
def az.k(M:Nat→Option Body):Prop:=M 40=some (.code az.m)∧aF.k M∧ar.k M∧aS.k M
def cn.b:C:= .seq (.aD [Qb 2 false] [0] [])
 (.seq (.aD [Qm 3 0,Q 4 (.len (.t 3)),Q 5 (.bin .gtr (.t 4) (kI 1048576)),Qm 2 5] [2] [])
 (.ret))
def cn.m:Fn:={np:=1,body:=cn.b,res:=[.tmp 2]}
def cn.k(M:Nat→Option Body):Prop:=M 36=some (.code cn.m)
def aN.b:C:= .seq (.aD [Qi 4 0] [0,1] [0])
 (.seq (.aD [Qm 5 1,Qm 6 0,Qm 7 1,Q 8 (.len (.t 7)),Q 9 (.call 125 [.t 6,.t 8] [0] []),Qa 10 1 5 9,Ql 11 10,Qm 4 11] [4] [0])
 (.ret))
def aN.m:Fn:={np:=2,body:=aN.b,res:=[.tmp 4]}
def aN.k(M:Nat→Option Body):Prop:=M 179=some (.code aN.m)∧ar.k M
def bl.b:C:= .seq (.aD [Qb 4 false] [0,1] [0])
 (.seq (.aD [Qm 5 0,Qm 6 1,Q 7 (.call 125 [.t 5,.t 6] [0] []),Q 8 (.bin .eql (.t 7) (kI 0)),Qm 4 8] [4] [0])
 (.ret))
def bl.m:Fn:={np:=2,body:=bl.b,res:=[.tmp 4]}
def bl.k(M:Nat→Option Body):Prop:=M 175=some (.code bl.m)∧ar.k M
def aM.l0:C:= .seq (.seq (.aD [Qm 12 7,Qm 13 0,Q 14 (.len (.t 13)),Q 15 (.bin .lss (.t 12) (.t 14))] [0,1,2,7,15] [])
 (.cond (.t 15) (.skip) (.exit 0)))
 (.seq (.block 1 (.seq (.aD [Qm 18 0,Qm 19 7,Qa 20 2 18 19,Qf 21 0 20,Ql 22 21,Qm 8 22] [0,1,2,7,8] [])
 (.seq (.aD [Qm 23 0,Qm 24 7,Qa 25 2 23 24,Qf 26 1 25,Ql 27 26,Qm 9 27] [0,1,2,7,8,9] [])
 (.seq (.seq (.aD [Qm 28 8,Q 29 (.bin .eql (.t 28) (kI 0))] [0,1,2,7,8,9,29] [])
 (.cond (.t 29) (.aD [Qm 30 2,Qm 8 30] [0,1,2,7,8,9] []) (.skip)))
 (.seq (.seq (.aD [Qm 31 9,Q 32 (.bin .eql (.t 31) (kI 0))] [0,1,2,7,8,9,32] [])
 (.cond (.t 32) (.aD [Qm 33 2,Qm 9 33] [0,1,2,7,8,9] []) (.skip)))
 (.seq (.seq (.aD [Qm 34 8,Qm 35 9,Q 36 (.bin .gtr (.t 34) (.t 35))] [0,1,2,7,8,9,36] [])
 (.cond (.t 36) (.aD [Qm 37 9,Qm 38 8,Qm 8 37,Qm 9 38] [0,1,2,7,8,9] []) (.skip)))
 (.seq (.aD [Qm 39 1,Qm 40 8,Q 41 (.bin .geq (.t 39) (.t 40)),Qm 42 41,Qg 43 (.mv (.t 1)) 42 true,Qg 44 (.mv (.t 9)) 42 true,Qg 45 (.bin .leq (.t 43) (.t 44)) 42 true,
   Q 46 (.pick (.t 42) (.t 45) (kB false))] [0,1,2,7,46] [])
 (.cond (.t 46) (.seq (.aD [Qb 6 true] [6] [])
 (.ret)) (.skip)))))))))
 (.aD [Qm 16 7,Q 17 (.bin .add (.t 16) (kI 1)),Qm 7 17] [0,1,2,7] []))
def aM.b:C:= .seq (.aD [Qb 6 false] [0,1,2] [])
 (.seq (.seq (.aD [Qm 10 1,Q 11 (.bin .lss (.t 10) (kI 1))] [0,1,2,11] [])
 (.cond (.t 11) (.seq (.aD [Qb 6 false] [6] [])
 (.ret)) (.skip)))
 (.seq (.seq (.aD [Qi 7 0] [0,1,2,7] [])
 (.block 0 (.loop aM.l0)))
 (.seq (.aD [Qb 6 false] [6] [])
 (.ret))))
def aM.m:Fn:={np:=3,body:=aM.b,res:=[.tmp 6]}
def aM.k(M:Nat→Option Body):Prop:=M 327=some (.code aM.m)
def aH.l0:C:= .seq (.aD [Q 14 (.bin .lss (.t 13) (.t 12))] [1,2,11,12,13,14] [])
 (.seq (.cond (.t 14) (.skip) (.exit 0))
 (.seq (.block 1 (.seq (.aD [Qa 15 2 11 13,QL 16 2 15,Q 8 (.alloc [.int .i64 0,.int .i64 0]),Qs 2 8 16] [1,2,8,11,12,13] [8])
 (.seq (.gC [Qf 17 0 8,Ql 18 17,Qf 19 1 8,Ql 20 19,Qm 9 18,Qm 10 20] [[],[0],[],[2],[0,1],[0,1,2,3,4]] [1,2,9,10,11,12,13] [])
 (.seq (.seq (.aD [Qm 21 9,Q 22 (.bin .eql (.t 21) (kI 0))] [1,2,9,10,11,12,13,22] [])
 (.cond (.t 22) (.aD [Qm 23 2,Qm 9 23] [1,2,9,10,11,12,13] []) (.skip)))
 (.seq (.seq (.aD [Qm 24 10,Q 25 (.bin .eql (.t 24) (kI 0))] [1,2,9,10,11,12,13,25] [])
 (.cond (.t 25) (.aD [Qm 26 2,Qm 10 26] [1,2,9,10,11,12,13] []) (.skip)))
 (.seq (.aD [Qm 27 1,Q 28 (.bin .gtr (.t 27) (kI 0)),Qm 29 28,Qg 30 (.mv (.t 1)) 29 true,Qg 31 (.mv (.t 9)) 29 true,Qg 32 (.mv (.t 10)) 29 true,Qg 33 (.min (.t 31) (.t 32)) 29 true,
   Qg 34 (.mv (.t 9)) 29 true,Qg 35 (.mv (.t 10)) 29 true,Qg 36 (.max (.t 34) (.t 35)) 29 true,Qg 37 (.call 101 [.t 30,.t 33,.t 36] [] []) 29 true,
   Q 38 (.pick (.t 29) (.t 37) (kB false))] [1,2,11,12,13,38] [])
 (.cond (.t 38) (.seq (.aD [Qb 6 true] [6] [])
 (.ret)) (.skip))))))))
 (.aD [Q 39 (.bin .add (.t 13) (kI 1)),Qm 13 39] [1,2,11,12,13] [])))
def aH.b:C:= .seq (.aD [Qb 6 false] [0,1,2] [])
 (.seq (.seq (.aD [Qm 11 0,Q 12 (.len (.t 11)),Qi 13 0] [1,2,11,12,13] [])
 (.block 0 (.loop aH.l0)))
 (.seq (.aD [Qb 6 false] [6] [])
 (.ret)))
def aH.m:Fn:={np:=3,body:=aH.b,res:=[.tmp 6]}
def aH.k(M:Nat→Option Body):Prop:=M 335=some (.code aH.m)∧br.k M
def aZ.l0:C:= .seq (.seq (.aD [Qm 8 6,Qm 9 1,Q 10 (.bin .leq (.t 8) (.t 9)),Qm 11 10,Qg 12 (.mv (.t 6)) 11 true,Qg 13 (.bin .leq (.t 12) (kI 100)) 11 true,Q 14 (.pick (.t 11) (.t 13) (kB false))] [0,1,5,6,14] [7,24])
 (.cond (.t 14) (.skip) (.exit 0)))
 (.seq (.block 1 (.seq (.aD [Qm 17 0,Qm 18 6,Qm 19 1,Q 20 (.call 327 [.t 17,.t 18,.t 19] [] [])] [0,1,5,6,20] [7,24])
 (.cond (.t 20) (.aD [Qm 21 5,Qm 22 6,Q 23 (.cd 1 1 [.int .i64 0] [(0,.t 22)]),Q 24 (.app 1 8 (.t 21) (.t 23)),Qm 5 24] [0,1,5,6] [7,24]) (.skip))))
 (.aD [Qm 15 6,Q 16 (.bin .add (.t 15) (kI 1)),Qm 6 16] [0,1,5,6] [7,24]))
def aZ.b:C:= .seq (.aD [Q 4 (.nil 1)] [0,1] [])
 (.seq (.aD [Q 7 (.cd 1 0 [.int .i64 0] []),Qm 5 7] [0,1,5] [7,24])
 (.seq (.seq (.aD [Qi 6 1] [0,1,5,6] [7,24])
 (.block 0 (.loop aZ.l0)))
 (.seq (.aD [Qm 25 5,Qm 4 25] [4] [4,7,24])
 (.ret))))
def aZ.m:Fn:={np:=2,body:=aZ.b,res:=[.tmp 4]}
def aZ.k(M:Nat→Option Body):Prop:=M 323=some (.code aZ.m)∧aM.k M
def a6.l0:C:= .seq (.seq (.aD [Qm 8 6,Qm 9 1,Q 10 (.min (.t 9) (kI 100)),Q 11 (.bin .leq (.t 8) (.t 10))] [0,1,5,6,11] [7,21])
 (.cond (.t 11) (.skip) (.exit 0)))
 (.seq (.block 1 (.seq (.aD [Qm 14 0,Qm 15 6,Qm 16 1,Q 17 (.call 335 [.t 14,.t 15,.t 16] [] [])] [0,1,5,6,17] [7,21])
 (.cond (.t 17) (.aD [Qm 18 5,Qm 19 6,Q 20 (.cd 1 1 [.int .i64 0] [(0,.t 19)]),Q 21 (.app 1 8 (.t 18) (.t 20)),Qm 5 21] [0,1,5,6] [7,21]) (.skip))))
 (.aD [Qm 12 6,Q 13 (.bin .add (.t 12) (kI 1)),Qm 6 13] [0,1,5,6] [7,21]))
def a6.b:C:= .seq (.aD [Q 4 (.nil 1)] [0,1] [])
 (.seq (.aD [Q 7 (.cd 1 0 [.int .i64 0] []),Qm 5 7] [0,1,5] [7,21])
 (.seq (.seq (.aD [Qi 6 1] [0,1,5,6] [7,21])
 (.block 0 (.loop a6.l0)))
 (.seq (.aD [Qm 22 5,Qm 4 22] [4] [4,7,21])
 (.ret))))
def a6.m:Fn:={np:=2,body:=a6.b,res:=[.tmp 4]}
def a6.k(M:Nat→Option Body):Prop:=M 344=some (.code a6.m)∧aH.k M
def aB.l0:C:= .seq (.seq (.aD [Qm 8 4,Qm 9 0,Q 10 (.call 125 [.t 9,kI 4] [0] []),Q 11 (.bin .add (kI 1) (.t 10)),Q 12 (.bin .lss (.t 8) (.t 11))] [0,3,4,12] [0,7,29])
 (.cond (.t 12) (.skip) (.exit 0)))
 (.seq (.block 1 (.seq (.aD [Qm 15 0,Q 16 (.ie 1 6 [.int .i64 0] [(0,kI 1),(1,kI 2),(2,kI 3),(3,kI 9),(4,kI 0),(5,kI 9999)]),Q 17 (.call 179 [.t 15,.t 16] [0] []),Qm 5 17] [0,3,4,5] [0,7,29])
 (.seq (.aD [Qm 18 0,Q 19 (.ie 1 5 [.int .i64 0] [(0,kI 1),(1,kI 2),(2,kI 5),(3,kI 0),(4,kI 7)]),Q 20 (.call 179 [.t 18,.t 19] [0] []),Qm 6 20] [0,3,4,5,6] [0,7,29])
 (.seq (.seq (.aD [Qm 21 0,Q 22 (.call 175 [.t 21,kI 2] [0] [])] [0,3,4,5,6,22] [0,7,29])
 (.cond (.t 22) (.aD [Qm 23 5,Qm 6 23] [0,3,4,5,6] [0,7,29]) (.skip)))
 (.aD [Qm 24 3,Qm 25 5,Qm 26 6,Q 27 (.build [.int .i64 0,.int .i64 0] [(0,1,.t 25),(1,1,.t 26)]),Q 28 (.cd 2 1 [.int .i64 0,.int .i64 0] [(0,.t 27)]),
   Q 29 (.app 2 16 (.t 24) (.t 28)),Qm 3 29] [0,3,4] [0,7,29])))))
 (.aD [Qm 13 4,Q 14 (.bin .add (.t 13) (kI 1)),Qm 4 14] [0,3,4] [0,7,29]))
def aB.b:C:= .seq (.aD [Q 2 (.nil 2)] [0] [0])
 (.seq (.aD [Q 7 (.cd 2 0 [.int .i64 0,.int .i64 0] []),Qm 3 7] [0,3] [0,7,29])
 (.seq (.seq (.aD [Qi 4 0] [0,3,4] [0,7,29])
 (.block 0 (.loop aB.l0)))
 (.seq (.aD [Qm 30 3,Qm 2 30] [2] [0,2,7,29])
 (.ret))))
def aB.m:Fn:={np:=1,body:=aB.b,res:=[.tmp 2]}
def aB.k(M:Nat→Option Body):Prop:=M 536=some (.code aB.m)∧ar.k M∧bl.k M∧aN.k M
def bD.b:C:= .seq (.aD [Q 2 (.nil 2)] [0] [])
 (.seq (.aD [Qm 3 0,Q 4 (.call 124 [.t 3] [] [(0,10400)]),Q 5 (.call 536 [.t 4] [0] [(0,10500)]),Qm 2 5] [2] [2,10500])
 (.ret))
def bD.m:Fn:={np:=1,body:=bD.b,res:=[.tmp 2]}
def bD.k(M:Nat→Option Body):Prop:=M 528=some (.code bD.m)∧aF.k M∧aB.k M
def aK.b:C:= .seq (.aD [Q 2 (.mv (.k (.str ⟨#[]⟩)))] [0] [])
 (.seq (.aD [Qm 4 0,Q 5 (.call 124 [.t 4] [] [(0,10500)]),Qm 3 5] [3] [10500])
 (.seq (.seq (.aD [Qm 6 3,Q 7 (.call 175 [.t 6,kI 4] [0] [])] [3,7] [10500])
 (.cond (.t 7) (.seq (.aD [Qm 8 3,
   Q 9 (.ie 1 12 [.str ⟨#[]⟩] [(0,.k (.str ⟨#[]⟩)),(1,.k (.str ⟨#[49,44]⟩)),(2,.k (.str ⟨#[44,49]⟩)),(3,.k (.str ⟨#[48]⟩)),(4,.k (.str ⟨#[49,58]⟩)),(5,.k (.str ⟨#[49,58,50,58,51]⟩)),(6,.k (.str ⟨#[42]⟩)),(7,.k (.str ⟨#[42,58,49]⟩)),(8,.k (.str ⟨#[49,48,48,48,48]⟩)),(9,.k (.str ⟨#[97]⟩)),(10,.k (.str ⟨#[49,44,50,44,51,44,52,44,53,44,54,44,55,44,56,44,57]⟩)),(11,.k (.str ⟨#[48,48,55]⟩))]),
   Q 10 (.call 185 [.t 8,.t 9] [0] []),Qm 2 10] [2] [])
 (.ret)) (.skip)))
 (.seq (.aD [Qm 11 3,Q 12 (.call 536 [.t 11] [0] []),Q 13 (.call 535 [.t 12] [] []),Qm 2 13] [2] [])
 (.ret))))
def aK.m:Fn:={np:=1,body:=aK.b,res:=[.tmp 2]}
def aK.k(M:Nat→Option Body):Prop:=M 531=some (.code aK.m)∧aF.k M∧bl.k M∧bC.k M∧aL.k M∧aB.k M
def bn.b:C:= .seq (.aD [Q 2 (.nil 2),Qi 3 0,Qi 4 0] [0] [])
 (.seq (.aD [Qm 8 0,Q 9 (.call 124 [.t 8] [] [(0,10900)]),Qm 5 9] [5] [10900])
 (.seq (.aD [Qm 10 5,Q 11 (.call 125 [.t 10,kI 12] [0] []),Q 12 (.bin .sub (.t 11) (kI 1)),Qm 6 12] [5,6] [10900])
 (.seq (.aD [Qm 13 5,Q 14 (.call 125 [.t 13,kI 10] [0] []),Qm 7 14] [5,6,7] [10900])
 (.seq (.aD [Qm 15 5,Q 16 (.call 536 [.t 15] [0] [(0,11600)]),Qm 17 6,Qm 18 7,Qm 2 16,Qm 3 17,Qm 4 18] [2,3,4] [2,11600])
 (.ret)))))
def bn.m:Fn:={np:=1,body:=bn.b,res:=[.tmp 2,.tmp 3,.tmp 4]}
def bn.k(M:Nat→Option Body):Prop:=M 532=some (.code bn.m)∧aF.k M∧ar.k M∧aB.k M
def bc.b:C:= .seq (.aD [Q 2 (.nil 2),Qi 3 0] [0] [])
 (.seq (.aD [Qm 6 0,Q 7 (.call 124 [.t 6] [] [(0,10700)]),Qm 4 7] [4] [10700])
 (.seq (.aD [Qm 8 4,Q 9 (.ie 1 7 [.int .i64 0] [(0,kI 0),(1,kI 3),(2,kI 9),(3,kI 100),(4,kI 101),(5,kI (-1)),(6,kI 9223372036854775807)]),Q 10 (.call 179 [.t 8,.t 9] [0] []),
   Qm 5 10] [4,5] [10700])
 (.seq (.aD [Qm 11 4,Q 12 (.call 536 [.t 11] [0] [(0,11200)]),Qm 13 5,Qm 2 12,Qm 3 13] [2,3] [2,11200])
 (.ret))))
def bc.m:Fn:={np:=1,body:=bc.b,res:=[.tmp 2,.tmp 3]}
def bc.k(M:Nat→Option Body):Prop:=M 533=some (.code bc.m)∧aF.k M∧aN.k M∧aB.k M
def aR.l0:C:= .seq (.seq (.aD [Qm 11 5,Qm 12 0,Q 13 (.len (.t 12)),Q 14 (.bin .lss (.t 11) (.t 13))] [0,1,5,14] [])
 (.cond (.t 14) (.skip) (.exit 0)))
 (.seq (.block 1 (.seq (.gC [Qm 17 0,Qm 18 5,Qa 19 2 17 18,QL 20 2 19,Qm 21 1,Qm 22 5,Qa 23 2 21 22,QL 24 2 23,Q 25 (.eqs true [.int,.int] (.t 20) (.t 24))] [[],[],[0,1],[0,1,2],[],[],[4,5],[4,5,6],lr 8] [0,1,5,25] [])
 (.cond (.t 25) (.seq (.aD [Qb 4 false] [4] [])
 (.ret)) (.skip))))
 (.aD [Qm 15 5,Q 16 (.bin .add (.t 15) (kI 1)),Qm 5 16] [0,1,5] []))
def aR.b:C:= .seq (.aD [Qb 4 false] [0,1] [])
 (.seq (.seq (.aD [Qm 6 0,Q 7 (.len (.t 6)),Qm 8 1,Q 9 (.len (.t 8)),Q 10 (.bin .neq (.t 7) (.t 9))] [0,1,10] [])
 (.cond (.t 10) (.seq (.aD [Qb 4 false] [4] [])
 (.ret)) (.skip)))
 (.seq (.seq (.aD [Qi 5 0] [0,1,5] [])
 (.block 0 (.loop aR.l0)))
 (.seq (.aD [Qb 4 true] [4] [])
 (.ret))))
def aR.m:Fn:={np:=2,body:=aR.b,res:=[.tmp 4]}
def aR.k(M:Nat→Option Body):Prop:=M 534=some (.code aR.m)
def aC.l0:C:= .seq (.seq (.aD [Qm 40 10,Qm 41 7,Q 42 (.bin .leq (.t 40) (.t 41))] [0,3,5,6,7,8,9,10,42] [])
 (.cond (.t 42) (.skip) (.exit 0)))
 (.seq (.block 1 (.seq (.aD [Qm 45 3,Qm 46 10,Qm 47 7,Q 48 (.call 335 [.t 45,.t 46,.t 47] [] [])] [0,3,5,6,7,8,9,10,48] [])
 (.cond (.t 48) (.seq (.seq (.aD [Qm 49 9,Qm 50 8,Q 51 (.len (.t 50)),Q 52 (.bin .geq (.t 49) (.t 51)),Qm 53 52,Qg 54 (.mv (.t 8)) 53 false,Qg 55 (.mv (.t 9)) 53 false,
   Qg 56 (.dB 1 (.t 54) (.t 55)) 53 false,Qg 57 (.load false 1 (.t 56)) 53 false,Qg 58 (.mv (.t 10)) 53 false,Qg 59 (.bin .neq (.t 57) (.t 58)) 53 false,
   Q 60 (.pick (.t 53) (kB true) (.t 59))] [0,3,5,6,7,8,9,10,60] [])
 (.cond (.t 60) (.seq (.aD [Qb 2 false] [2] [])
 (.ret)) (.skip)))
 (.aD [Qm 61 9,Q 62 (.bin .add (.t 61) (kI 1)),Qm 9 62] [0,3,5,6,7,8,9,10] [])) (.skip))))
 (.aD [Qm 43 10,Q 44 (.bin .add (.t 43) (kI 1)),Qm 10 44] [0,3,5,6,7,8,9,10] []))
def aC.b:C:= .seq (.aD [Qb 2 false] [0] [])
 (.seq (.seq (.aD [Qm 21 0,Q 22 (.call 36 [.t 21] [] [])] [0,22] [])
 (.cond (.t 22) (.seq (.aD [Qb 2 true] [2] [])
 (.ret)) (.skip)))
 (.seq (.aD [Qm 23 0,Q 24 (.call 528 [.t 23] [] []),Qm 3 24] [0,3] [])
 (.seq (.aD [Qm 25 3,Q 26 (.call 529 [.t 25] [] []),Qm 4 26] [0,3,4] [])
 (.seq (.aD [Qm 28 4,Q 29 (.call 530 [.t 28] [] []),Qm 27 29,Qx 30 0 27,Qx 31 1 27,Qm 5 30,Qm 6 31] [0,3,5,6] [])
 (.seq (.aD [Qm 32 0,Q 33 (.call 40 [.t 32] [] []),Q 34 (.dB 1 (.t 33) (kI 0)),Ql 35 34,Q 36 (.bin .rem (.t 35) (kI 12)),Qm 7 36] [0,3,5,6,7] [])
 (.seq (.aD [Qm 37 3,Qm 38 7,Q 39 (.call 344 [.t 37,.t 38] [] []),Qm 8 39] [0,3,5,6,7,8] [])
 (.seq (.aD [Qi 9 0] [0,3,5,6,7,8,9] [])
 (.seq (.seq (.aD [Qi 10 1] [0,3,5,6,7,8,9,10] [])
 (.block 0 (.loop aC.l0)))
 (.seq (.aD [Qm 63 0,Q 64 (.call 531 [.t 63] [] []),Qm 11 64] [0,3,5,6,8,9,11] [])
 (.seq (.aD [Qm 66 11,Q 67 (.call 530 [.t 66] [] []),Qm 65 67,Qx 68 0 65,Qx 69 1 65,Qm 12 68,Qm 13 69] [0,3,5,6,8,9,11,12,13] [])
 (.seq (.aD [Qm 71 11,Q 72 (.call 322 [.t 71] [] []),Qm 70 72,Qx 73 0 70,Qx 74 1 70,Qm 14 73,Qm 15 74] [0,3,5,6,8,9,12,13,14,15] [])
 (.seq (.aD [Qm 76 0,Q 77 (.call 532 [.t 76] [] []),Qm 75 77,Qx 78 0 75,Qx 79 1 75,Qx 80 2 75,Qm 16 78,Qm 17 79,Qm 18 80] [0,3,5,6,8,9,12,13,14,15,16,17,18] [])
 (.seq (.aD [Qm 82 0,Q 83 (.call 533 [.t 82] [] []),Qm 81 83,Qx 84 0 81,Qx 85 1 81,Qm 19 84,Qm 20 85] [3,5,6,8,9,12,13,14,15,16,17,18,19,20] [])
 (.seq (.aD [Qm 86 6,Qm 87 86,Qg 88 (.mv (.t 5)) 87 true,Qg 89 (.mv (.t 3)) 87 true,Qg 90 (.call 534 [.t 88,.t 89] [] []) 87 true,Q 91 (.pick (.t 87) (.t 90) (kB false)),Qm 92 91,
   Qg 93 (.mv (.t 9)) 92 true,Qg 94 (.mv (.t 8)) 92 true,Qg 95 (.len (.t 94)) 92 true,Qg 96 (.bin .eql (.t 93) (.t 95)) 92 true,Q 97 (.pick (.t 92) (.t 96) (kB false)),Qm 98 97,
   Qg 99 (.mv (.t 13)) 98 true,Qg 100 (.mv (.t 15)) 98 true,Qg 101 (.beq false (.t 99) (.t 100)) 98 true,Q 102 (.pick (.t 98) (.t 101) (kB false)),Qm 103 102,
   Qg 104 (.mv (.t 12)) 103 true,Qg 105 (.mv (.t 14)) 103 true,Qg 106 (.call 534 [.t 104,.t 105] [] []) 103 true,Q 107 (.pick (.t 103) (.t 106) (kB false)),Qm 108 107,
   Qg 109 (.mv (.t 16)) 108 true,Qg 110 (.mv (.t 17)) 108 true,Qg 111 (.mv (.t 18)) 108 true,Qg 112 (.call 335 [.t 109,.t 110,.t 111] [] []) 108 true,
   Qg 113 (.mv (.t 16)) 108 true,Qg 114 (.mv (.t 17)) 108 true,Qg 115 (.mv (.t 18)) 108 true,Qg 116 (.call 327 [.t 113,.t 114,.t 115] [] []) 108 true,
   Qg 117 (.beq false (.t 112) (.t 116)) 108 true,Q 118 (.pick (.t 108) (.t 117) (kB false)),Qm 119 118,Qg 120 (.mv (.t 19)) 119 true,Qg 121 (.mv (.t 20)) 119 true,
   Qg 122 (.call 344 [.t 120,.t 121] [] []) 119 true,Qg 123 (.mv (.t 19)) 119 true,Qg 124 (.mv (.t 20)) 119 true,Qg 125 (.call 323 [.t 123,.t 124] [] []) 119 true,
   Qg 126 (.call 158 [.t 122,.t 125] [] []) 119 true,Q 127 (.pick (.t 119) (.t 126) (kB false)),Qm 128 127,Qg 129 (.mv (.t 19)) 128 true,
   Qg 130 (.call 529 [.t 129] [] []) 128 true,Qg 131 (.mv (.t 19)) 128 true,Qg 132 (.call 535 [.t 131] [] []) 128 true,Qg 133 (.bin .eql (.t 130) (.t 132)) 128 true,
   Q 134 (.pick (.t 128) (.t 133) (kB false)),Qm 2 134] [2] [])
 (.ret)))))))))))))))
def aC.m:Fn:={np:=1,body:=aC.b,res:=[.tmp 2]}
def aC.k(M:Nat→Option Body):Prop:=M 527=some (.code aC.m)∧cn.k M∧az.k M∧aT.k M∧al.k M∧aZ.k M∧aM.k M∧aH.k M∧a6.k M∧bD.k M∧aQ.k M∧ao.k M∧aK.k M∧bn.k M∧bc.k M∧aR.k M∧aL.k M
end Mx
namespace Mx
open Go
variable {M:Nat→Option Body}
def bad(b:UInt8):Bool:=decide (b<32)||decide (126<b)
def lR(d:Nat):UInt8:=UInt8.ofNat (48+d)
def eB(m:Nat)(acc:List UInt8):List UInt8:=if m=0 then acc else eB (m/10) (lR (m%10)::acc)
termination_by m
decreasing_by omega
theorem db(acc:List UInt8):eB 0 acc=acc:=by rw[eB];simp
theorem dL{m:Nat}(h:m≠0)(acc:List UInt8):eB m acc=eB (m/10) (lR (m%10)::acc):=by rw[eB,if_neg h]
def dec(n:Int):List UInt8:=if n=0 then [48] else(if n<0 then [45] else [])++eB n.natAbs []
theorem gq:∀(k m:Nat) (acc:List UInt8),m<10^k→(eB m acc).length≤acc.length+k:=by
 intro k
 induction k with
 |zero=>intro m acc h;have:m=0:=by simpa using h
        subst this;rw[db];omega
 |succ k ih=>
  intro m acc h;by_cases h0:m=0
  ·subst h0;rw[db];omega
  ·rw[dL h0];have:=ih (m/10) (lR (m%10)::acc) (by rw[Nat.pow_succ] at h;omega);simp at this;omega
theorem qf{n:Int}(h: -9223372036854775808≤n)(h':n≤9223372036854775807):(dec n).length≤21:=by
 unfold dec;have:=gq 20 n.natAbs [] (by omega);simp at this;split
 ·simp
 ·split<;>simp<;>omega
theorem bm.bg(h:bm.k M)(d:Nat)(hd:d<10):run M 247 [.c (I d)] []=some (.c (U8 (lR d).toNat),[]):=by
 refine aP (b:=bm.m) h ⟨0, ?_⟩;have e0:(d:Int)<10:=by omega
 have e1:IntKind.i64.wrap (48+(d:Int))=48+(d:Int):=wrap_i64 (by omega) (by omega);have e2:IntKind.u8.wrap (48+(d:Int))=((lR d).toNat:Int):=by
  unfold IntKind.wrap;simp[IntKind.bits,IntKind.signed,lR]<;>omega
 simp[cX,bm.m,bm.b,aq,e0,e1,e2]
def iK(b:Bool)(s:Int×List UInt8)(x:Nat):St:={t:=[(0,.c (I s.1)),(3,.c (.bool b)),(4,.c (S s.2))],o:=[],n:=x}
def gJ(s:Int×List UInt8):Prop:= -9223372036854775808≤s.1∧s.1≤9223372036854775807∧∃k,s.1.natAbs<10^k∧s.2.length+k≤20
theorem hC{n:Int}{acc:List UInt8}(h:gJ (n,acc))(h0:n≠0)(b:UInt8):gJ (n.tdiv 10,b::acc):=by
 obtain⟨h1,h2,k,h3,h4⟩:=h;simp only at h1 h2 h3 h4;have e:(n.tdiv 10).natAbs=n.natAbs/10:=by rw[Int.natAbs_tdiv];rfl
 cases k with
 |zero=>simp at h3;omega
 |succ k=>exact⟨by simp only;omega,by simp only;omega,k,by simp only;rw[e];rw[Nat.pow_succ] at h3;omega,by simp;omega⟩
theorem fX(n:Int):n.tmod 10=(n.natAbs%10:Nat)∨(n.tmod 10<0∧n.tmod 10= - (n.natAbs%10:Nat)):=by
 have e:(n.tmod 10).natAbs=n.natAbs%10:=by rw[Int.natAbs_tmod];rfl
 omega
theorem aA.round(h:aA.k M)(k:Nat)(b:Bool)(s:Int×List UInt8)(x:Nat)(hi:gJ s)(h0:s.1≠0):
  ∃y,bH (run M) k aA.l0 (iK b s x)=some (.normal,iK b (s.1.tdiv 10,lR (s.1.natAbs%10)::s.2) y):=by
 obtain⟨n,acc⟩:=s;obtain⟨h1,h2,k',h3,h4⟩:=hi;simp only at h0 h1 h2 h3 h4;have hf:=bm.bg h.2 (n.natAbs%10) (by omega);have ed:(n.tdiv 10).natAbs=n.natAbs/10:=by rw[Int.natAbs_tdiv];rfl
 have e1:IntKind.i64.wrap (n.tdiv 10)=n.tdiv 10:=wrap_i64 (by omega) (by omega);have e2:acc.length+1≤4611686018427387904:=by omega
 have e3:1+acc.length≤4611686018427387904:=by omega
 rcases fX n with ht|⟨ht0,ht⟩
 ·have e0:¬(((n.natAbs%10:Nat):Int)<0):=by omega
  generalize n.natAbs%10=d at*;simp only[iK,aA.l0];simp (disch:=(first|omega|(simp;done)|(simp;omega))) [h0,ht,hf,e1,e0,aj,dk]
 ·have e0:n.tmod 10<0:=ht0;have e4:IntKind.i64.wrap (0-n.tmod 10)=((n.natAbs%10:Nat):Int):=by rw[wrap_i64 (by omega) (by omega)];omega
  generalize n.natAbs%10=d at*;simp only[iK,aA.l0];simp only[Int.zero_sub] at e4;simp (disch:=(first|omega|(simp;done)|(simp;omega))) [h0,e0,e4,hf,e1,aj,dk]
theorem aA.bg(h:aA.k M)(n:Int)(hn: -9223372036854775808≤n)(hn':n≤9223372036854775807):run M 197 [.c (I n)] []=some (.c (S (dec n)),[]):=by
 refine aP (b:=aA.m) h.1 ⟨n.natAbs+1, ?_⟩;by_cases h0:n=0
 ·simp[cX,aA.m,aA.b,aq,h0,dec]
 obtain⟨g,hr⟩:=fh (f:=bH (run M) (n.natAbs+1) aA.l0) (iK (decide (n<0))) gJ (fun s=>s.1.natAbs) (fun s=>eB s.1.natAbs s.2)
  (fun q m=>(.exit 0,{t:=[(0,.c (I 0)),(3,.c (.bool (decide (n<0)))),(4,.c (S q)),(11,.c (.bool false))],o:=[],n:=m}))
  (by
   intro s x hi;by_cases hs:s.1=0
   ·right;exact⟨x+32,by simp[iK,aA.l0,hs,db],by simp⟩
   ·left;obtain⟨y,hy⟩:=aA.round h (n.natAbs+1) (decide (n<0)) s x hi hs;have e:(s.1.tdiv 10).natAbs=s.1.natAbs/10:=by rw[Int.natAbs_tdiv];rfl
    refine⟨_,y,hy,hC hi hs _,by simp only;omega, ?_⟩;simp only[e];exact(dL (by omega) _).symm)
  (n.natAbs+1) (n,[]) ⟨hn,hn',20,by simp only;omega,by simp⟩ (by simp only;omega)
 have hl:=gq 20 n.natAbs [] (by omega);simp[iK] at hr hl;by_cases hneg:n<0
 ·simp[hneg] at hr;simp (disch:=(first|omega|(simp;done)|(simp;omega))) [cX,aA.m,aA.b,aq,h0,dec,hneg,hr,aj]
 ·simp[hneg] at hr;simp (disch:=(first|omega|(simp;done)|(simp;omega))) [cX,aA.m,aA.b,aq,h0,dec,hneg,hr]
def jH(n:Int)(s:Int×List UInt8)(x:Nat):St:={t:=[(0,.c (I n)),(3,.c (S s.2)),(4,.c (I s.1))],o:=[],n:=x}
theorem rr:∀d:Nat,d<10→∃h:d<16,([48,49,50,51,52,53,54,55,56,57,97,98,99,100,101,102]:List UInt8)[d]=lR d:=by decide
theorem aG.round(k:Nat)(n0:Int)(s:Int×List UInt8)(x:Nat)(hi:gJ s)(h0:s.1≠0):
  ∃y,bH (run M) k aG.l0 (jH n0 s x)=some (.normal,jH n0 (s.1.tdiv 10,lR (s.1.natAbs%10)::s.2) y):=by
 obtain⟨n,acc⟩:=s;obtain⟨h1,h2,k',h3,h4⟩:=hi;simp only at h0 h1 h2 h3 h4;have ed:(n.tdiv 10).natAbs=n.natAbs/10:=by rw[Int.natAbs_tdiv];rfl
 have e1:IntKind.i64.wrap (n.tdiv 10)=n.tdiv 10:=wrap_i64 (by omega) (by omega);have e2:acc.length+1≤4611686018427387904:=by omega
 have e3:1+acc.length≤4611686018427387904:=by omega
 have hd:n.natAbs%10<10:=by omega
 have e5:IntKind.i64.wrap (((n.natAbs%10:Nat):Int)+1)=((n.natAbs%10+1:Nat):Int):=wrap_i64 (by omega) (by omega);have e4:IntKind.i64.wrap (-(n.tmod 10))= -(n.tmod 10):=wrap_i64 (by have:=fX n;omega) (by have:=fX n;omega);have e6:(if n.tmod 10< -(n.tmod 10) then -(n.tmod 10) else n.tmod 10)=((n.natAbs%10:Nat):Int):=by
  rcases fX n with ht|⟨ht0,ht⟩<;>split<;>omega
 generalize n.natAbs%10=d at*;obtain⟨hd16,hfig⟩:=rr d hd;have e7:=lz ([48,49,50,51,52,53,54,55,56,57,97,98,99,100,101,102]:List UInt8) d hd16;rw[hfig] at e7;simp only[List.take_succ_cons] at e7;have e8:d+1≤16:=by omega
 have e9:(0:Int)≤(d:Int)+1:=by omega
 have e10:((d:Int)+1).toNat=d+1:=by omega
 simp only[jH,aG.l0];simp (disch:=(first|omega|(simp;done)|(simp;omega))) [h0,e4,e5,e6,e7,e8,e9,e10,e1,aj]
theorem aG.bg(h:aG.k M)(n:Int)(hn: -9223372036854775808≤n)(hn':n≤9223372036854775807):run M 128 [.c (I n)] []=some (.c (S (dec n)),[]):=by
 refine aP (b:=aG.m) h ⟨n.natAbs+1, ?_⟩;by_cases h0:n=0
 ·simp[cX,aG.m,aG.b,aq,h0,dec]
 obtain⟨g,hr⟩:=fh (f:=bH (run M) (n.natAbs+1) aG.l0) (jH n) gJ (fun s=>s.1.natAbs) (fun s=>eB s.1.natAbs s.2)
  (fun q m=>(.exit 0,{t:=[(0,.c (I n)),(3,.c (S q)),(4,.c (I 0)),(10,.c (.bool false))],o:=[],n:=m}))
  (by
   intro s x hi;by_cases hs:s.1=0
   ·right;exact⟨x+32,by simp[jH,aG.l0,hs,db],by simp⟩
   ·left;obtain⟨y,hy⟩:=aG.round (n.natAbs+1) n s x hi hs;have e:(s.1.tdiv 10).natAbs=s.1.natAbs/10:=by rw[Int.natAbs_tdiv];rfl
    refine⟨_,y,hy,hC hi hs _,by simp only;omega, ?_⟩;simp only[e];exact(dL (by omega) _).symm)
  (n.natAbs+1) (n,[]) ⟨hn,hn',20,by simp only;omega,by simp⟩ (by simp only;omega)
 have hl:=gq 20 n.natAbs [] (by omega);simp[jH] at hr hl;by_cases hneg:n<0
 ·simp (disch:=(first|omega|(simp;done)|(simp;omega))) [cX,aG.m,aG.b,aq,h0,dec,hneg,hr,aj]
 ·simp (disch:=(first|omega|(simp;done)|(simp;omega))) [cX,aG.m,aG.b,aq,h0,dec,hneg,hr]
structure Token where
 kind:Int
 text:List UInt8
end Mx
namespace Mx
open Go
def kC.g:List T→Option T
 |[.str s,.int .i32 r]=>if 0≤r∧r<128 then some (.bool (decide (0≤Lib.indexByte s.data.toList r.toNat.toUInt8))) else none
 |_=>none
end Mx
namespace Mx
open Go
variable {M:Nat→Option Body}
theorem br.bg(h:br.k M)(n a b:Int):run M 101 [.c (I n),.c (I a),.c (I b)] []=some (.c (.bool (decide (a≤n)&&decide (n≤b))),[]):=by
 refine aP (b:=br.m) h ⟨0, ?_⟩;by_cases h:a≤n
 ·have h':n≥a:=h;simp[cX,br.m,br.b,aq,h]
 ·have h':¬n≥a:=h;simp[cX,br.m,br.b,aq,h]
end Mx
namespace Mx
open Go
abbrev qK:=Token×Nat×Int
def jW:qK:=(⟨0,[]⟩,0,1)
def nQ:qK:=(⟨0,[]⟩,0,2)
def bo(b:UInt8):Bool:=decide (48≤b)&&decide (b≤57)
def r_:List UInt8→Nat×Nat
 |[]=>(0,1)
 |[a]=>if bo a then(a.toNat-48,2) else(0,1)
 |a::b::_=>if bo a then(if bo b then(10*(a.toNat-48)+(b.toNat-48),3) else(a.toNat-48,2)) else(0,1)
def sH:List UInt8:=[125,13,10]
def r9(l:List UInt8)(n i:Nat):qK:=
 if l.drop i=[]∧n≤60 then jW else if i=1∨60<n then nQ else
 if(l.drop i).length<3∧l.drop i=sH.take (l.drop i).length then jW else
 if(l.drop i).take 3≠sH then nQ else if(l.drop i).length<3+n then jW else(⟨2,(l.drop (i+3)).take n⟩,i+3+n,0)
def so(l:List UInt8):qK:=r9 l (r_ (l.drop 1)).1 (r_ (l.drop 1)).2
theorem p8{d:Nat}(h:d<10):bo (lR d)=true∧(lR d).toNat-48=d:=by
 have:∀d:Fin 10,bo (lR d)=true∧(lR d).toNat-48=d:=by decide
 exact this ⟨d,h⟩
end Mx
namespace Mx
open Go
variable {M:Nat→Option Body}
structure Range where
 a:Int
 b:Int
def b8(r:Range):List T:=[I r.a,I r.b]
def rows(l:List Range):List (List T):=l.map b8
abbrev bO(l:List Range):T:= .sl false 2 (rows l)
theorem cC(l:List Range):(rows l).length=l.length:=by simp[rows]
theorem ft(l:List Range)(i:Nat)(h:i<(rows l).length):(rows l)[i]=b8 (l[i]'(by simpa [rows] using h)):=by simp[rows]
def hit(n last:Int)(r:Range):Bool:=
 let a:=if r.a=0 then last else r.a
 let b:=if r.b=0 then last else r.b
 if b<a then decide (b≤n)&&decide (n≤a) else decide (a≤n)&&decide (n≤b)
def dQ(l:List Range)(n last:Int):Bool:=decide (1≤n)&&l.any (hit n last)
def q8(l:List Range)(n last:Int)(i:Nat)(x:Nat):St:={t:=[(0,.c (bO l)),(1,.c (I n)),(2,.c (I last)),(7,.c (I i))],o:=[],n:=x}
theorem aM.round(k:Nat)(l:List Range)(n last:Int)(hl:l.length≤1048576)(i:Nat)(hi:i<l.length)(x:Nat):
  if hit n last l[i] then ∃y,bH (run M) k aM.l0 (q8 l n last i x)=some (.ret,{t:=[(6,.c (.bool true))],o:=[],n:=y})
  else ∃y,bH (run M) k aM.l0 (q8 l n last i x)=some (.normal,q8 l n last (i+1) y):=by
 have e5:=cZ (i:=i) (by omega);by_cases ha:l[i].a=0<;>by_cases hb:l[i].b=0<;>by_cases hc:(if l[i].b=0 then last else l[i].b)<(if l[i].a=0 then last else l[i].a)<;>
  by_cases h1:(if(if l[i].b=0 then last else l[i].b)<(if l[i].a=0 then last else l[i].a) then(if l[i].b=0 then last else l[i].b) else(if l[i].a=0 then last else l[i].a))≤n<;>
  by_cases h2:n≤(if(if l[i].b=0 then last else l[i].b)<(if l[i].a=0 then last else l[i].a) then(if l[i].a=0 then last else l[i].a) else(if l[i].b=0 then last else l[i].b))<;>
  simp only[ha,hb,if_true,if_false] at hc h1 h2<;>simp only[hc,if_true,if_false] at h1 h2<;>
  simp[q8,aM.l0,hit,hi,bO,cC,ft,b8,e5,ha,hb,hc,h1,h2]
theorem aM.bg(h:aM.k M)(l:List Range)(n last:Int)(hl:l.length≤1048576):run M 327 [.c (bO l),.c (I n),.c (I last)] []=some (.c (.bool (dQ l n last)),[]):=by
 obtain⟨k,hk,hno,hend⟩:=gX (hit n last) l;obtain⟨bb,hbb⟩:∃b,l.any (hit n last)=b:=⟨_,rfl⟩
 rw[hbb] at hend;refine aP (b:=aM.m) h ⟨k+1, ?_⟩;by_cases hn:n<1
 ·have:¬1≤n:=by omega
  simp[cX,aM.m,aM.b,aq,dQ,hn,this]
 have hn':1≤n:=by omega
 obtain⟨r,hr,hp⟩:=kO (f:=bH (run M) (k+1) aM.l0) (q8 l n last) (fun r=>∃m,r=if bb=true then(.ret,{t:=[(6,.c (.bool true))],o:=[],n:=m}) else(.exit 0,{t:=[(0,.c (bO l)),(1,.c (I n)),(2,.c (I last)),(7,.c (I l.length)),(15,.c (.bool false))],o:=[],n:=m})) k
  (fun i hi x=>by have:=aM.round (M:=M) (k+1) l n last hl i (by omega) x;rw[hno i (by omega) hi] at this;simpa using this)
  (by
   intro x;rcases hend with⟨rfl,h⟩|⟨h1,h2,h3⟩
   ·simp[q8,aM.l0,bO,cC,h]
   ·have:=aM.round (M:=M) (k+1) l n last hl k h1 x;rw[h2,if_pos rfl] at this;obtain⟨y,hy⟩:=this;exact⟨_,hy,by simp,y,by rw[h3,if_pos rfl]⟩)
  (k+1) (by omega) 2000064
 obtain⟨m,rfl⟩:=hp;simp[q8,bO] at hr;cases bb with
 |true=>
  simp only[if_true] at hr;simp[cX,aM.m,aM.b,aq,dQ,hn,hn',bO,hr,hbb,-List.any_eq_true]
 |false=>
  simp only[av,if_false] at hr;simp[cX,aM.m,aM.b,aq,dQ,hn,hn',bO,hr,hbb,-List.any_eq_true]
def qQ(l:List Range)(n last:Int)(i:Nat)(x:Nat):St:={t:=[(1,.c (I n)),(2,.c (I last)),(11,.c (bO l)),(12,.c (I l.length)),(13,.c (I i))],o:=[],n:=x}
theorem pW(n last:Int)(r:Range):hit n last r=(decide ((if(if r.b=0 then last else r.b)<(if r.a=0 then last else r.a) then(if r.b=0 then last else r.b) else(if r.a=0 then last else r.a))≤n)&&decide (n≤(if(if r.b=0 then last else r.b)>(if r.a=0 then last else r.a) then(if r.b=0 then last else r.b) else(if r.a=0 then last else r.a)))):=by
 unfold hit;generalize (if r.a=0 then last else r.a)=a;generalize (if r.b=0 then last else r.b)=b;by_cases h:b<a
 ·have h':¬b>a:=by omega
  simp only[h,h',if_true,if_false]
 ·by_cases h2:b>a
  ·simp only[h,h2,if_true,if_false]
  ·have:a=b:=by omega
   subst this;simp
theorem aH.round(h:aH.k M)(k:Nat)(l:List Range)(n last:Int)(hl:l.length≤1048576)(i:Nat)(hi:i<l.length)(x:Nat):
  if decide (1≤n)&&hit n last l[i] then ∃y,bH (run M) k aH.l0 (qQ l n last i x)=some (.ret,{t:=[(6,.c (.bool true))],o:=[],n:=y})
  else ∃y,bH (run M) k aH.l0 (qQ l n last i x)=some (.normal,qQ l n last (i+1) y):=by
 have e5:=cZ (i:=i) (by omega);have hw:=br.bg h.2 n (if(if l[i].b=0 then last else l[i].b)<(if l[i].a=0 then last else l[i].a) then(if l[i].b=0 then last else l[i].b) else(if l[i].a=0 then last else l[i].a)) (if(if l[i].b=0 then last else l[i].b)>(if l[i].a=0 then last else l[i].a) then(if l[i].b=0 then last else l[i].b) else(if l[i].a=0 then last else l[i].a));rw[←pW] at hw;by_cases hn:1≤n
 ·have hn0:0<n:=by omega
  cases hh:hit n last l[i]<;>rw[hh] at hw<;>by_cases ha:l[i].a=0<;>by_cases hb:l[i].b=0<;>simp only[ha,hb,if_true,if_false,gt_iff_lt,ite_self] at hw<;>
   simp[qQ,aH.l0,hi,bO,cC,ft,b8,e5,ha,hb,hw,hn,hn0]
 ·have hn0:¬0<n:=by omega
  by_cases ha:l[i].a=0<;>by_cases hb:l[i].b=0<;>
  simp[qQ,aH.l0,hi,bO,cC,ft,b8,e5,ha,hb,hn,hn0]
theorem aH.bg(h:aH.k M)(l:List Range)(n last:Int)(hl:l.length≤1048576):run M 335 [.c (bO l),.c (I n),.c (I last)] []=some (.c (.bool (dQ l n last)),[]):=by
 obtain⟨k,hk,hno,hend⟩:=gX (fun r=>decide (1≤n)&&hit n last r) l;have hinS:dQ l n last=l.any (fun r=>decide (1≤n)&&hit n last r):=by
  unfold dQ;by_cases h:1≤n<;>simp[h]
 obtain⟨bb,hbb⟩:∃b,l.any (fun r=>decide (1≤n)&&hit n last r)=b:=⟨_,rfl⟩
 rw[hinS];rw[hbb] at hend ⊢;refine aP (b:=aH.m) h.1 ⟨k+1, ?_⟩;obtain⟨r,hr,hp⟩:=kO (f:=bH (run M) (k+1) aH.l0) (qQ l n last) (fun r=>∃m,r=if bb=true then(.ret,{t:=[(6,.c (.bool true))],o:=[],n:=m}) else(.exit 0,{t:=[(1,.c (I n)),(2,.c (I last)),(11,.c (bO l)),(12,.c (I l.length)),(13,.c (I l.length)),(14,.c (.bool false))],o:=[],n:=m})) k
  (fun i hi x=>by have:=aH.round h (k+1) l n last hl i (by omega) x;rw[hno i (by omega) hi] at this;simpa using this)
  (by
   intro x;rcases hend with⟨rfl,h⟩|⟨h1,h2,h3⟩
   ·simp[qQ,aH.l0,bO,cC,h]
   ·have:=aH.round h (k+1) l n last hl k h1 x;rw[h2,if_pos rfl] at this;obtain⟨y,hy⟩:=this;exact⟨_,hy,by simp,y,by rw[h3,if_pos rfl]⟩)
  (k+1) (by omega) 2000064
 obtain⟨m,rfl⟩:=hp;simp[qQ,bO] at hr;cases bb with
 |true=>
  simp only[if_true] at hr;simp[cX,aH.m,aH.b,aq,bO,cC,hr]
 |false=>
  simp only[av,if_false] at hr;simp[cX,aH.m,aH.b,aq,bO,cC,hr]
end Mx
namespace Mx
open Go
def val:List UInt8→Nat→Nat
 |[],n=>n
 |d::l,n=>val l (10*n+(d.toNat-48))
def bA(s:List UInt8):Nat×Bool:=if s=[42] then(0,true) else if s.length≤4∧s.all bo=true∧s≠[]∧0<val s 0 then(val s 0,true) else(0,false)
def dA(r:List UInt8):Option (Nat×List UInt8):=
 if r.head? =some 42 then some (0,r.drop 1) else
 if(r.takeWhile bo).take 4≠[]∧0<val ((r.takeWhile bo).take 4) 0 then some (val ((r.takeWhile bo).take 4) 0,r.drop ((r.takeWhile bo).take 4).length) else none
def dp(r:List UInt8):Option (Range×List UInt8):=
 match dA r with
 |none=>none
 |some (a,r1)=>if r1.head? =some 58 then(match dA (r1.drop 1) with|none=>none|some (b,r2)=>some (⟨a,b⟩,r2)) else some (⟨a,a⟩,r1)
def cr(p:List UInt8):List UInt8×List UInt8×Bool:=if(58:UInt8)∈p then(p.takeWhile (·≠58),p.drop ((p.takeWhile (·≠58)).length+1),true) else(p,[],false)
def fe(p:List UInt8):List UInt8:=if(cr p).2.2=true then(cr p).2.1 else(cr p).1
def du(p:List UInt8):Option Range:=if(bA (cr p).1).2=true∧(bA (fe p)).2=true then some ⟨(bA (cr p).1).1,(bA (fe p)).1⟩ else none
def eH(t:List UInt8):Prop:=t=[]∨∃c r,t=c::r∧(c=44∨c=58)
theorem kD{t:List UInt8}(h:eH t):t.takeWhile bo=[]∧¬t.head? =some 42:=by
 rcases h with rfl|⟨c,r,rfl,rfl|rfl⟩
 ·simp
 ·simp[bo]
 ·simp[bo]
theorem gy{s t:List UInt8}(h:eH t):(s++t).takeWhile bo=s.takeWhile bo:=by
 induction s with
 |nil=>simp[(kD h).1]
 |cons b s ih=>
  simp only[List.cons_append,List.takeWhile_cons,ih]
theorem kd{s t:List UInt8}(h:eH t)(hs:(bA s).2=true):dA (s++t)=some ((bA s).1,t):=by
 unfold bA at hs ⊢;split at hs
 ·rename_i c;subst c;simp[dA]
 ·split at hs
  ·rename_i c1 c;obtain⟨c2,c3,c4,c5⟩:=c;rw[if_neg c1,if_pos ⟨c2,c3,c4,c5⟩];have hall:s.takeWhile bo=s:=by
    have:=List.takeWhile_append_of_pos (p:=bo) (l₁:=s) (l₂:=[]) (fun b hb=>List.all_eq_true.1 c3 b hb);simpa using this
   have h42:¬(s++t).head? =some 42:=by
    cases s with
    |nil=>exact(c4 rfl).elim
    |cons b s=>
     simp only[List.cons_append,List.head?_cons,af];rintro rfl;simp[bo] at c3
   have ht:(s.takeWhile bo).take 4=s:=by rw[hall];exact aa c2
   unfold dA;rw[if_neg h42,gy h,ht,if_pos ⟨c4,c5⟩,List.drop_left]
  ·cases hs
theorem lK{s t:List UInt8}(h:eH t)(hs:(bA s).2=false):dA (s++t)=none∨∃n c r,dA (s++t)=some (n,c::r)∧c∈s:=by
 by_cases h42:(s++t).head? =some 42
 ·cases s with
  |nil=>exact((kD h).2 h42).elim
  |cons b s=>
   simp only[List.cons_append,List.head?_cons,af] at h42;subst h42;cases s with
   |nil=>simp[bA] at hs
   |cons c s=>exact .inr ⟨0,c,s++t,by simp[dA],by simp⟩
 ·by_cases c:(s.takeWhile bo).take 4≠[]∧0<val ((s.takeWhile bo).take 4) 0
  ·right;obtain⟨d,hd⟩:∃d,d=(s.takeWhile bo).take 4:=⟨_,rfl⟩
   rw[←hd] at c;have hpre:d<+:s:=by rw[hd];exact(List.take_prefix _ _).trans (List.takeWhile_prefix _)
   obtain⟨u,hu⟩:=hpre;have hn:dA (s++t)=some (val d 0,u++t):=by
    unfold dA;rw[if_neg h42,gy h,←hd,if_pos c];rw[show s++t=d++(u++t) by rw[←bh,hu],List.drop_left]
   cases u with
   |nil=>
    exfalso;rw[b_] at hu;have h4:d.length≤4:=by rw[hd,cT];omega
    have hall:s.all bo=true:=by
     rw[←hu,au];intro b hb;rw[hd] at hb;have:=List.mem_of_mem_take hb;have h2:=List.all_takeWhile (p:=bo) (l:=s);rw[au] at h2;exact h2 b this
    have:bA s=(val s 0,true):=by
     unfold bA;split
     ·rename_i e;rw[e] at hall;simp[bo] at hall
     ·rw[if_pos ⟨by rw[←hu];exact h4,hall,by rw[←hu];exact c.1,by rw[←hu];exact c.2⟩]
    rw[this] at hs;cases hs
   |cons b u=>exact⟨_,b,u++t,hn,by rw[←hu];simp⟩
  ·left;unfold dA;rw[if_neg h42,gy h,if_neg c]
def oL(t:List UInt8):Prop:=t=[]∨∃r,t=44::r
theorem oL.stop{t:List UInt8}(h:oL t):eH t:=by
 rcases h with h|⟨r,h⟩
 ·exact .inl h
 ·exact .inr ⟨44,r,h,.inl rfl⟩
theorem kk{p:List UInt8}(h:(58:UInt8)∈p):p=(cr p).1++58::(cr p).2.1∧¬(58:UInt8)∈(cr p).1∧(cr p).2.2=true:=by
 unfold cr;rw[if_pos h];refine⟨?_, ?_,rfl⟩
 ·induction p with
  |nil=>cases h
  |cons b p ih=>
   by_cases c:b=58
   ·subst c;simp
   ·have hb:decide (b≠58)=true:=by simpa using c
    have:=ih (by rcases List.mem_cons.1 h with e|e;·exact(c e.symm).elim
                 ·exact e)
    simp only[List.takeWhile_cons,hb,if_true,ak,List.drop_succ_cons,List.cons_append];rw[←this]
 ·intro hm;have:=List.all_takeWhile (p:=fun b:UInt8=>decide (b≠58)) (l:=p);rw[au] at this;have:=this _ hm;simp at this
theorem pS{p t:List UInt8}(h:oL t){r:Range}(hp:du p=some r):dp (p++t)=some (r,t):=by
 unfold du at hp;split at hp
 ·rename_i c;cases hp;obtain⟨c1,c2⟩:=c;by_cases hc:(58:UInt8)∈p
  ·obtain⟨e,_,e2⟩:=kk hc;have es:fe p=(cr p).2.1:=by unfold fe;rw[if_pos e2]
   rw[es] at c2 ⊢;have hs:eH (58::((cr p).2.1++t)):= .inr ⟨58,_,rfl,.inr rfl⟩;have h1:=kd hs c1;have h2:=kd h.stop c2;unfold dp;rw[show p++t=(cr p).1++58::((cr p).2.1++t) by rw[←List.cons_append,←bh,←e],h1];simp only[List.head?_cons,if_true,List.drop_succ_cons,List.drop_zero,h2]
  ·have e:cr p=(p,[],false):=by unfold cr;rw[if_neg hc]
   have es:fe p=p:=by unfold fe;rw[e];rfl
   rw[e] at c1;rw[es,e];have h1:=kd h.stop c1;unfold dp;simp only at h1 ⊢;rw[h1];have:¬t.head? =some 58:=by rcases h with rfl|⟨r,rfl⟩<;>simp
   simp only[this,if_false]
 ·cases hp
theorem pT{p t:List UInt8}(hc44:¬(44:UInt8)∈p)(h:oL t)(hp:du p=none):dp (p++t)=none∨∃r c u,dp (p++t)=some (r,c::u)∧c≠44:=by
 have ht58:¬t.head? =some 58:=by rcases h with rfl|⟨r,rfl⟩<;>simp
 unfold du at hp;split at hp
 ·cases hp
 ·rename_i c;by_cases hc:(58:UInt8)∈p
  ·obtain⟨e,e1,e2⟩:=kk hc;have es:fe p=(cr p).2.1:=by unfold fe;rw[if_pos e2]
   rw[es] at c;have hs:eH (58::((cr p).2.1++t)):= .inr ⟨58,_,rfl,.inr rfl⟩;have ep:p++t=(cr p).1++58::((cr p).2.1++t):=by rw[←List.cons_append,←bh,←e]
   cases f1:(bA (cr p).1).2 with
   |false=>
    rcases lK hs f1 with q|⟨n,x,r,q,hx⟩
    ·left;unfold dp;rw[ep,q]
    ·right;have hx58:¬x=58:=fun z=>e1 (z▸hx)
     refine⟨⟨n,n⟩,x,r, ?_,fun z=>hc44 (by rw[e];exact List.mem_append_left _ (z▸hx))⟩;unfold dp;rw[ep,q];simp[hx58]
   |true=>
    have f2:(bA (cr p).2.1).2=false:=by
     cases z:(bA (cr p).2.1).2 with
     |false=>rfl
     |true=>exact(c ⟨f1,z⟩).elim
    have h1:=kd hs f1;rcases lK h.stop f2 with q|⟨n,x,r,q,hx⟩
    ·left;unfold dp;rw[ep,h1];simp[q]
    ·right;refine⟨⟨(bA (cr p).1).1,n⟩,x,r, ?_,fun z=>hc44 (by rw[e];exact List.mem_append_right _ (aV _ (z▸hx)))⟩;unfold dp;rw[ep,h1];simp[q]
  ·have e:cr p=(p,[],false):=by unfold cr;rw[if_neg hc]
   have es:fe p=p:=by unfold fe;rw[e];rfl
   rw[es,e] at c;simp only[and_self,Bool.not_eq_true] at c;rcases lK h.stop c with q|⟨n,x,r,q,hx⟩
   ·left;unfold dp;rw[q]
   ·right;have hx58:¬x=58:=fun z=>hc (z▸hx)
    refine⟨⟨n,n⟩,x,r, ?_,fun z=>hc44 (z▸hx)⟩;unfold dp;rw[q];simp[hx58]
def pieces:List UInt8→List (List UInt8)
 |[]=>[[]]
 |b::r=>if b=44 then []::pieces r else match pieces r with|[]=>[[b]]|p::ps=>(b::p)::ps
theorem mY(l:List UInt8):pieces l≠[]:=by
 cases l with
 |nil=>simp[pieces]
 |cons b r=>simp only[pieces];split;·simp
            split<;>simp
theorem ff:∀r:List UInt8,∃p t,r=p++t∧¬(44:UInt8)∈p∧((t=[]∧pieces r=[p])∨∃r',t=44::r'∧pieces r=p::pieces r')
 |[]=>⟨[],[],rfl,by simp,.inl ⟨rfl,rfl⟩⟩
 |b::r=>by
  by_cases c:b=44
  ·exact⟨[],b::r,rfl,by simp,.inr ⟨r,by rw[c],by simp[pieces,c]⟩⟩
  ·obtain⟨p,t,h1,h2,h3⟩:=ff r;have hc:¬(44:UInt8)=b:=fun e=>c e.symm
   refine⟨b::p,t,by rw[h1];rfl,by simp[hc,h2], ?_⟩;rcases h3 with⟨h3,h4⟩|⟨r',h3,h4⟩
   ·exact .inl ⟨h3,by simp[pieces,c,h4]⟩
   ·exact .inr ⟨r',h3,by simp[pieces,c,h4]⟩
def c7:List (List UInt8)→List Range→List Range×Bool
 |[],acc=>(acc,true)
 |p::ps,acc=>match du p with
  |none=>([],false)
  |some r=>if acc.length=8 then([],false) else c7 ps (acc++[r])
def cJ(l:List UInt8):List Range×Bool:=c7 (pieces l) []
def hH:Nat→List UInt8→List Range→List Range×Bool
 |0,_,_=>([],false)
 |d+1,r,acc=>match dp r with
  |none=>([],false)
  |some (x,r1)=>if 8<acc.length+1 then([],false) else if r1=[] then(acc++[x],true) else if r1.head? ≠some 44 then([],false) else hH d (r1.drop 1) (acc++[x])
theorem mB:∀(d:Nat) (r:List UInt8) (acc:List Range),r.length<d→acc.length≤8→hH d r acc=c7 (pieces r) acc
 |0,r,acc,h,_=>by omega
 |d+1,r,acc,h,ha=>by
  obtain⟨p,t,h1,h2,h3⟩:=ff r;have het:oL t:=by
   rcases h3 with⟨h3,_⟩|⟨r',h3,_⟩
   ·exact .inl h3
   ·exact .inr ⟨r',h3⟩
  cases hp:du p with
  |none=>
   have hset:c7 (pieces r) acc=([],false):=by
    rcases h3 with⟨_,h4⟩|⟨r',_,h4⟩<;>rw[h4,c7,hp]
   rw[hset,hH,h1];rcases pT h2 het hp with q|⟨x,c,u,q,hc⟩
   ·rw[q]
   ·rw[q];simp only;split;·rfl
    rw[if_neg (by simp),if_pos (by simpa using hc)]
  |some x=>
   have q:=pS het hp;rw[hH,h1,q];simp only;by_cases c8:acc.length=8
   ·rw[if_pos (by omega),←h1];rcases h3 with⟨_,h4⟩|⟨r',_,h4⟩<;>rw[h4,c7,hp]<;>simp[c8]
   ·rw[if_neg (by omega),←h1];rcases h3 with⟨h3,h4⟩|⟨r',h3,h4⟩
    ·rw[if_pos h3,h4,c7,hp];simp[c8,c7]
    ·rw[h3,if_neg (by simp),if_neg (by simp),h4,c7,hp];simp only[if_neg c8,List.drop_succ_cons,List.drop_zero];refine mB d r' _ ?_ (by simp;omega);rw[h1,h3] at h;simp at h;omega
theorem index_one(c:UInt8):∀l:List UInt8,Lib.index l [c]=if c∈l then((l.takeWhile (fun b=>decide (b≠c))).length:Int) else -1
 |[]=>by simp[Lib.index]
 |b::l=>by
  unfold Lib.index;by_cases e:b=c
  ·subst e;simp
  ·have e2:¬c=b:=fun h=>e h.symm
   rw[if_neg (by simp[e2]),index_one c l];by_cases m:c∈l
   ·simp[m,e,e2]
    try omega
   ·simp[m,e2]
theorem qg(l:List UInt8):Lib.cut l [58]=cr l:=by
 unfold Lib.cut cr;rw[index_one];by_cases m:(58:UInt8)∈l
 ·rw[if_pos m,if_pos (by omega),if_pos m];simp only[dT,ak,bd];congr 1;have e:l.takeWhile (fun b=>decide (b≠58))<+:l:=List.takeWhile_prefix _;exact(List.prefix_iff_eq_take.1 e).symm
 ·rw[if_neg m,if_neg (by omega),if_neg m]
theorem fZ:∀(d:Nat) (l:List UInt8),l.length<d→Lib.splitK [44] 0 (Lib.countFrom [44] d l) l=pieces l
 |0,l,h=>by omega
 |d+1,l,h=>by
  obtain⟨p,t,h1,h2,h3⟩:=ff l;rw[Lib.countFrom];rcases h3 with⟨h3,h4⟩|⟨r',h3,h4⟩
  ·have hm:¬(44:UInt8)∈l:=by rw[h1,h3,b_];exact h2
   have hi:Lib.index l [44]= -1:=by rw[index_one,if_neg hm]
   rw[hi,h4];simp only[beq_self_eq_true,if_true,Lib.splitK];rw[h1,h3,b_]
  ·have hm:(44:UInt8)∈l:=by rw[h1,h3];simp
   have htw:l.takeWhile (fun b=>decide (b≠44))=p:=by
    rw[h1,h3,List.takeWhile_append_of_pos (fun b hb=>by simp;rintro rfl;exact h2 hb)];simp
   have hi:Lib.index l [44]=(p.length:Int):=by rw[index_one,if_pos hm,htw]
   have hne:¬((p.length:Int)== -1)=true:=by simp
   rw[hi,if_neg hne,Nat.add_comm,Lib.splitK,hi,if_neg hne,h4];simp only[dT,ak,bd,Nat.zero_add,Nat.add_zero];have hd:l.drop (p.length+1)=r':=by rw[h1,h3,←List.drop_drop,List.drop_left];rfl
   have ht:l.take p.length=p:=by rw[h1,List.take_left]
   rw[hd,ht,fZ d r' (by rw[h1,h3] at h;simp at h;omega)]
theorem mS(l:List UInt8):Lib.split l [44]=pieces l:=fZ _ l (Nat.lt_succ_self _)
theorem eQ{σ:Type}{f:St→Option (Out×St)}(S:σ→St)(Inv:σ→Prop)(μ:σ→Nat)(Post:Out×St→Prop)
  (h:∀s,Inv s→(∃s',f (S s)=some (.normal,S s')∧Inv s'∧μ s'<μ s)∨(∃r,f (S s)=some r∧r.1≠.normal∧Post r)):
  ∀m s,Inv s→μ s<m→∃r,ca f m (S s)=some r∧Post r
 |0,s,_,hm=>by omega
 |m+1,s,hi,hm=>by
  rcases h s hi with⟨s',h1,h2,h3⟩|⟨⟨o,r⟩,h1,h2,h3⟩
  ·obtain⟨r,q1,q2⟩:=eQ S Inv μ Post h m s' h2 (by omega);exact⟨r,by simp only[ca,h1];exact q1,q2⟩
  ·refine⟨(o,r), ?_,h3⟩;simp only[ca,h1];cases o with
   |normal=>exact(h2 rfl).elim
   |_=>rfl
end Mx
