/-
  What more of the functions compute, each by a small evaluation; no condition beyond what each says.
-/
import Derived.Orders
import Derived.LoopN
import Derived.Below
import Derived.Carry
import Derived.Deep.Slices
import Derived.ChangeArms
import Derived.WalkKit
import Derived.ProofKit
import Derived.OpenShut
import Derived.ShutString
import Derived.ChangeOld
import Derived.SizedLaws
import Derived.Lib.Bytealg
import Derived.Sort.Row
import Derived.Sort.Grow
import Derived.Lib.SlicesCompact
import Derived.Test.YtcihgbflbmhkbaaMxVw
set_option maxHeartbeats 16000000
set_option linter.unusedSimpArgs false
set_option linter.unusedVariables false
namespace Mx
open Go
variable {P:Program} {F:Nat→FuncId} {Pr:Nat→Prop} {w0:World} {lb:Lb} {N:Nat} {E:Nat→Option Loc} {n:Nat} {t:List (Nat×V)} {o:List (Nat×Ob)} {a:Act} {w:World}
def mG(X Y:Cx):Prop:=∀t v,cO t→eo X t v→eo Y t v
structure Home (X Y:Cx) (own:Nat→Option Loc) (lent:List (Nat×Ob)) (n:Nat) (lmap:List (Nat×Nat×Nat)) (thaw:List (Nat×Nat)):Prop where
 heap:Y.w=X.w
 xg:∀q id,get thaw q=some id→Y.E (n+q)=own q
 free:∀q b cap sz,get thaw q=none→own q=some (.fY b cap sz)→¬Y.U b
 uf:∀p id bA,get lmap p=some (id,bA)→∃ob,get lent p=some ob∧∀l,X.E p=some l→Y.E bA=some l
def pa(X:Cx)(own:Nat→Option Loc)(n:Nat)(thaw:List (Nat×Nat))(fl:Bool)(u:Nat×Ob):Prop:=
 ∃q l,get thaw q=some u.1∧own q=some l∧u.2.bA=n+q∧u.2.w=true∧(∀(i j:Nat) (r:List T) (t:T),u.2.rows[i]? =some r→r[j]? =some t→cO t)∧ie X u.2 l∧(fl=true→u.2.rows.all (fun r=>r.all T.scalar)=true)
theorem ie.bA{X:Cx}{ob ob':Ob}{l:Loc}(h:ie X ob l)(h1:ob'.rows=ob.rows)(h2:ob'.sz=ob.sz)(h3:ob'.bx=ob.bx):ie X ob' l:=by
 cases l with
 |nil=>exact⟨by rw[h1];exact h.1,by rw[h3];exact h.2⟩
 |fY b cap sz=>exact⟨by rw[h2];exact h.1,h.2.move rfl h1 h2 (by rw[h1,h3];exact h.2.cl) fun i j r t v _ _ hv=>hv⟩
theorem lO{rows:List (List T)}(h:rows.all (fun r=>r.all T.scalar)=true){i j:Nat}{r:List T}{t:T}(hi:rows[i]? =some r)(hj:r[j]? =some t):t.scalar=true:=by
 simp only[List.all_eq_true] at h;exact h r (cT hi) t (cT hj)
theorem y6{X Y:Cx}{sz:Nat}{rows:List (List T)}{l:Loc}(hr:ie X {bA:=0,sz:=sz,w:=true,bx:=false,rows:=rows} l)(hw:Y.w=X.w)(hu:∀b cap sz,l= .fY b cap sz→¬Y.U b)
  (hm:mG X Y∨rows.all (fun r=>r.all T.scalar)=true):eo Y (.sl false sz rows) (zh l rows.length):=by
 cases l with
 |nil=>
  obtain⟨h,_⟩:=hr;simp only at h;subst h;exact eo.empty (X:=Y) false sz none 0
 |fY b cap sz'=>
  obtain⟨e,hl,hwid,hcl,cs,e1,fr,m1,m2,m3,m4⟩:=hr;simp only at e hl hwid hcl m2 m4;subst e;refine .sl false sz' rows (some (dZ b)) cap (fun i j=>cs.getD (i*sz'+j) undef) hl hwid ?_ ?_ (hcl trivial)
  ·intro i j r t hi ht;obtain⟨v,hv,_⟩:=m4 i j r t hi ht;refine⟨_,rfl,hu b cap sz' rfl, ?_⟩;rw[gW,hw];simp only[World.cell?,m1,Option.isSome_none,az,if_false,bY,hv];rfl
  ·intro i j r t hi ht;obtain⟨v,hv,hrep⟩:=m4 i j r t hi ht;simp only[bY,hv,fh];rcases hm with hm|hm
   ·exact hm _ _ (hcl trivial i j r t hi ht) hrep
   ·exact hrep.scalar (lO hm hi ht)
theorem sg{X Y:Cx}{own:Nat→Option Loc}{lent:List (Nat×Ob)}{lmap:List (Nat×Nat×Nat)}{thaw:List (Nat×Nat)}{q:Nat}{x y:T}{db:List (Nat×Ob)}{v:Value}{fl:Bool}
  (H:Home X Y own lent n lmap thaw) (hm:mG X Y∨fl=true) (hf:fl=true→js x=true) (h:jx n lmap thaw q x=some (y,db)) (hr:mE X own lent q x v):
  eo Y y v∧∀u∈db,pa X own n thaw fl u:=by
 cases hr with
 |int k m=>simp[jx] at h;obtain⟨rfl,rfl⟩:=h;exact⟨.int _ _,fun u hu=>by simp at hu⟩
 |bool b=>simp[jx] at h;obtain⟨rfl,rfl⟩:=h;exact⟨.bool _,fun u hu=>by simp at hu⟩
 |str s=>simp[jx] at h;obtain⟨rfl,rfl⟩:=h;exact⟨.str _,fun u hu=>by simp at hu⟩
 |own sz rows l ho hl=>
  simp only[jx] at h;split at h
  ·rename_i id hid;simp only[if_true,aA,aH] at h;obtain⟨rfl,rfl⟩:=h;have hE:=H.xg q id hid;rw[ho] at hE;refine⟨?_,fun u hu=> ?_⟩
   ·cases l with
    |nil=>
     have:=hl.1;simp only at this;subst this;exact .iq id (n+q) hE
    |fY b cap sz'=>
     have hlen:rows.length≤cap:=hl.2.len;have:=gC (X:=Y) (id:=id) (bA:=n+q) hE hlen;exact this
   ·simp only[eA] at hu;subst hu;exact⟨q,l,hid,ho,rfl,rfl,(match l,hl with| .nil,hl=>fun i j r t hi _=>(by have:=hl.1;simp only at this;subst this;simp at hi)| .fY _ _ _,hl=>hl.2.cl rfl),hl.bA rfl rfl rfl,fun hfl=>by have:=hf hfl;simpa [js] using this⟩
  ·rename_i hid;simp only[aA,aH] at h;obtain⟨rfl,rfl⟩:=h;exact⟨y6 hl H.heap (fun b cap sz e=>H.free q b cap sz hid (by rw[ho,e])) (hm.imp id fun k=>by have:=hf k;simpa [js] using this),fun u hu=>by simp at hu⟩
 |box cells b cap ho hl hc=>
  simp only[jx] at h;split at h
  ·rename_i id hid;simp only[aA,aH] at h;obtain⟨rfl,rfl⟩:=h;have hE:=H.xg q id hid;rw[ho] at hE;refine⟨?_,fun u hu=> ?_⟩
   ·have:=eo.ptr (X:=Y) id (n+q) 0 0 b cap cells.length hE;simpa [add_zero] using this
   ·simp only[eA] at hu;subst hu;refine⟨q,_,hid,ho,rfl,rfl,fun i j r t hi ht=> ?_,hl.bA rfl rfl rfl,fun hfl=>by have:=hf hfl;simp[js] at this⟩;cases i with
    |zero=>simp at hi;subst hi;exact hc j t ht
    |succ i=>simp at hi
  ·cases h
 |sh sz rows _ hs=>
  simp only[jx] at h;split at h
  ·simp at h
  ·simp only[aA,aH] at h;obtain⟨rfl,rfl⟩:=h;refine⟨?_,fun u hu=>by simp at hu⟩;rcases hm with hm|hm
   ·refine hm _ _ ?_ hs;cases hs with|sl _ _ _ A c vs h1 h2 h3 h4 h5=>exact .sl _ _ _ h5
   ·have:=hf hm;simp[js] at this
 |row p bA off len _ hs=>
  simp only[jx] at h;split at h
  ·rename_i id ver' hp;simp only[aA,aH] at h;obtain⟨rfl,rfl⟩:=h;obtain⟨ob,h1,h2⟩:=H.uf p id ver' hp;refine⟨?_,fun u hu=>by simp at hu⟩;have:=hs ob h1;cases this with
   |row _ _ _ _ cap sz b hE hl ho=>exact .row _ _ off len cap sz b (h2 _ hE) hl ho
   |iq _ _ hE=>exact .iq _ _ (h2 _ hE)
  ·cases h
theorem si{X Y:Cx}{own:Nat→Option Loc}{lent:List (Nat×Ob)}{lmap:List (Nat×Nat×Nat)}{thaw:List (Nat×Nat)}{fl:Bool}
  (H:Home X Y own lent n lmap thaw) (hm:mG X Y∨fl=true):∀{q:Nat} {xs ys:List T} {db:List (Nat×Ob)} {vs:List Value},(fl=true→xs.all js=true)→mD n lmap thaw q xs=some (ys,db)→wa X own lent q xs vs→
  dA Y ys vs∧∀u∈db,pa X own n thaw fl u
 |q,[],ys,db,vs,hf,h,hr=>by
  simp[mD] at h;obtain⟨rfl,rfl⟩:=h;cases vs with
  |nil=>exact⟨.nil Y,fun u hu=>by simp at hu⟩
  |cons=>simp[wa] at hr
 |q,x::xs,ys,db,vs,hf,h,hr=>by
  cases vs with
  |nil=>simp[wa] at hr
  |cons v vs=>
   simp only[mD] at h;split at h
   ·rename_i y u1 h1;split at h
    ·rename_i ys' u2 h2;simp only[aA,aH] at h;obtain⟨rfl,rfl⟩:=h;obtain⟨r1,r2⟩:=hr;have hf':=fun k=>by have:=hf k;simpa [List.all_cons,aj] using this
     obtain⟨a1,a2⟩:=sg H hm (fun k=>(hf' k).1) h1 r1;obtain⟨b1,b2⟩:=si H hm (fun k=>by simpa using(hf' k).2) h2 r2;refine⟨.cons a1 b1,fun u hu=> ?_⟩;rcases List.mem_append.1 hu with q|q
     ·exact a2 u q
     ·exact b2 u q
    ·cases h
   ·cases h
def V.As:V→Bool
 | .c t=>js t
 | .a ts=>ts.all js
 |_=>false
theorem o9{X Y:Cx}{own:Nat→Option Loc}{lent:List (Nat×Ob)}{lmap:List (Nat×Nat×Nat)}{thaw:List (Nat×Nat)}{fl:Bool}{q q':Nat}{x y:V}{db:List (Nat×Ob)}{v:Value}
  (H:Home X Y own lent n lmap thaw) (hm:mG X Y∨fl=true) (hf:fl=true→x.As=true) (h:kR n lmap thaw q x=some (y,db,q')) (hr:qS X own lent q x v):
  eK Y y v∧q'=q+x.width∧∀u∈db,pa X own n thaw fl u:=by
 cases x with
 |c x=>
  simp only[kR] at h;split at h
  ·rename_i t' u1 h1;simp only[aA,aH] at h;obtain⟨rfl,rfl,rfl⟩:=h;obtain⟨a1,a2⟩:=sg H hm hf h1 hr;exact⟨.c _ _ a1,rfl,a2⟩
  ·cases h
 |a xs=>
  simp only[kR] at h;split at h
  ·rename_i ys u1 h1;simp only[aA,aH] at h;obtain⟨rfl,rfl,rfl⟩:=h;cases v with
   |agg cs=>
    obtain⟨a1,a2⟩:=si H hm hf h1 hr;have:=eK.Bc a1;exact⟨by simpa using this,rfl,a2⟩
   |_=>simp[qS] at hr
  ·cases h
 |hC=>simp[kR] at h
 |undef=>simp[kR] at h
theorem qb{X Y:Cx}{own:Nat→Option Loc}{lent:List (Nat×Ob)}{lmap:List (Nat×Nat×Nat)}{thaw:List (Nat×Nat)}{fl:Bool}
  (H:Home X Y own lent n lmap thaw) (hm:mG X Y∨fl=true):∀{q:Nat} {xs ys:List V} {db:List (Nat×Ob)} {vs:List Value},(fl=true→xs.all V.As=true)→j8 n lmap thaw q xs=some (ys,db)→qh X own lent q xs vs→
  ys.length=vs.length∧(∀(i:Nat) (y:V) (v:Value),ys[i]? =some y→vs[i]? =some v→eK Y y v)∧∀u∈db,pa X own n thaw fl u
 |q,[],ys,db,vs,hf,h,hr=>by
  simp[j8] at h;obtain⟨rfl,rfl⟩:=h;cases vs with
  |nil=>exact⟨rfl,fun i y v h=>by simp at h,fun u hu=>by simp at hu⟩
  |cons=>simp[qh] at hr
 |q,x::xs,ys,db,vs,hf,h,hr=>by
  cases vs with
  |nil=>simp[qh] at hr
  |cons v vs=>
   simp only[j8] at h;split at h
   ·rename_i y u1 q1 h1;split at h
    ·rename_i ys' u2 h2;simp only[aA,aH] at h;obtain⟨rfl,rfl⟩:=h;obtain⟨r1,r2⟩:=hr;have hf':=fun k=>by have:=hf k;simpa [List.all_cons,aj] using this
     obtain⟨a1,rfl,a2⟩:=o9 H hm (fun k=>(hf' k).1) h1 r1;obtain⟨b0,b1,b2⟩:=qb H hm (fun k=>by simpa using(hf' k).2) h2 r2;refine⟨by simp[b0], ?_,fun u hu=> ?_⟩
     ·intro i y v hy hv;cases i with
      |zero=>simp at hy hv;subst hy hv;exact a1
      |succ i=>exact b1 i y v (by simpa using hy) (by simpa using hv)
     ·rcases List.mem_append.1 hu with q|q
      ·exact a2 u q
      ·exact b2 u q
    ·cases h
   ·cases h
theorem uy{X Y:Cx}{own:Nat→Option Loc}{lent:List (Nat×Ob)}{lmap:List (Nat×Nat×Nat)}{thaw:List (Nat×Nat)}{x y:V}{db:List (Nat×Ob)}{v:Value}{fl:Bool}
  (H:Home X Y own lent n lmap thaw) (hm:mG X Y∨fl=true) (hf:fl=true→x.flat=true) (h:back n lmap thaw x=some (y,db)) (hr:Ae X own lent x v):
  eK Y y v∧∀u∈db,pa X own n thaw fl u:=by
 cases x with
 |hC vs=>
  simp only[back,al,aH] at h;obtain⟨r,h1,rfl,rfl⟩:=h;cases v with
  |tuple xs=>
   obtain⟨b0,b1,b2⟩:=qb H hm (fun k=>hf k) h1 hr;exact⟨.hC _ _ (by simpa using b0) fun i v x h1 h2=>b1 i v x h1 (by simpa using h2),b2⟩
  |_=>simp[Ae,qS] at hr
 |c t=>
  simp only[back,al,aH] at h;obtain⟨r,h1,rfl,rfl⟩:=h;obtain⟨a1,_,a2⟩:=o9 H hm (x:= .c t) hf (q':=r.2.2) h1 hr;exact⟨a1,a2⟩
 |a ts=>
  simp only[back,al,aH] at h;obtain⟨r,h1,rfl,rfl⟩:=h;obtain⟨a1,_,a2⟩:=o9 H hm (x:= .a ts) hf (q':=r.2.2) h1 hr;exact⟨a1,a2⟩
 |undef=>simp[back,kR] at h
theorem nu{nn:Nat}{o after:List (Nat×Ob)}:∀{ls:List (Nat×Nat×Ob)} {db:List (Nat×Ob)},fy nn o after ls=some db→
  (∀u∈db,∃l∈ls,∃b,l.2.1=u.1∧get o u.1=some b∧u.2=j9 nn b (get after l.1))∧∀l∈ls,∃ob,get db l.2.1=some ob
 |[],db,h=>by simp[fy] at h;subst h;exact⟨fun u hu=>by simp at hu,fun l hl=>by simp at hl⟩
 |(p,id,ob)::ls,db,h=>by
  simp only[fy] at h;split at h
  ·rename_i b l h2 h3;cases h;obtain⟨i1,i2⟩:=nu h3;refine⟨fun u hu=> ?_,fun l' hl=> ?_⟩
   ·rcases List.mem_cons.1 hu with rfl|hu
    ·exact⟨_,dB ..,b,rfl,h2,rfl⟩
    ·obtain⟨l',k1,k2⟩:=i1 u hu;exact⟨l',df _ k1,k2⟩
   ·simp only[get];split
    ·exact⟨_,rfl⟩
    ·rename_i hne;rcases List.mem_cons.1 hl with rfl|hl
     ·exact(hne rfl).elim
     ·exact i2 l' hl
  ·cases h
end Mx
namespace Mx
open Go
variable {P:Program} {F:Nat→FuncId} {Pr:Nat→Prop} {w0:World} {lb:Lb} {N:Nat} {E:Nat→Option Loc} {n:Nat→Prop} {t:List (Nat×V)} {o:List (Nat×Ob)} {a:Act} {w:World}
theorem mg{p id:Nat}{v v':V}{ob:Ob}(h:gg o p v=some (v',id,ob)):lP o (p,id,ob):=by
 unfold gg at h;split at h
 ·split at h
  ·rename_i b hg;split at h
   ·rename_i hc;simp only[al,aH] at h;obtain⟨rows,hm,rfl,rfl,rfl⟩:=h;exact⟨b,hg,hc.2.1,rfl,rfl,hc.2.1,rfl,.inr hm⟩
   ·cases h
  ·cases h
 ·split at h
  ·rename_i b hg;split at h
   ·rename_i hc;simp only[aA,aH] at h;obtain⟨rfl,rfl,rfl⟩:=h;exact⟨b,hg,hc.2.1,rfl,rfl,hc.2.1,rfl,.inl ⟨rfl,hc.2.2.1⟩⟩
   ·cases h
  ·cases h
 ·cases h
theorem oF{lend:List Nat}:∀{ts:List T} {k:Nat} {ts':List T} {ls:List (Nat×Nat×Ob)} {b:List Nat},jn o lend k ts=some (ts',ls,b)→
  (∀l∈ls,k≤l.1∧l.1<k+ts.length∧lP o l)∧(ls.map (·.1)).Nodup
 |[],k,ts',ls,b,h=>by
  simp[jn] at h;obtain⟨rfl,rfl,rfl⟩:=h;exact⟨fun l hl=>by simp at hl,by simp⟩
 |t::ts,k,ts',ls,b,h=>by
  simp only[jn] at h;split at h
  ·cases h
  ·rename_i ts1 ls1 b1 hrest;obtain⟨i3,i4⟩:=oF hrest;split at h
   ·split at h
    ·rename_i t' id ob hlo;simp only[aA,aH] at h;obtain⟨rfl,rfl,rfl⟩:=h;have k1:=mg hlo;refine⟨?_, ?_⟩
     ·intro l hl;rcases List.mem_cons.1 hl with rfl|hl
      ·exact⟨Nat.le_refl _,by simp,k1⟩
      ·obtain⟨q1,q2,q3⟩:=i3 l hl;exact⟨by omega,by simp;omega,q3⟩
     ·simp only[aL,List.nodup_cons];refine⟨?_,i4⟩;intro hm;obtain⟨l,hl,e⟩:=List.mem_map.1 hm;have:=(i3 l hl).1;omega
    ·cases h
   ·split at h
    ·simp only[aA,aH] at h;obtain⟨rfl,rfl,rfl⟩:=h;refine⟨?_,i4⟩;intro l hl;obtain⟨q1,q2,q3⟩:=i3 l hl;exact⟨by omega,by simp;omega,q3⟩
    ·cases h
def nK(p q k:Nat):Prop:=(p≤k∧k<q)∨(1000000+64*p≤k∧k<1000000+64*q)
theorem qg{lend:List Nat}:∀{vals:List V} {p:Nat} {as:List V} {ls:List (Nat×Nat×Ob)} {b:List Nat},args o lend p vals=some (as,ls,b)→p+vals.length≤1000→
  as.length=vals.length∧(∀l∈ls,nK p (p+vals.length) l.1∧lP o l)∧(ls.map (·.1)).Nodup
 |[],p,as,ls,b,h,_=>by
  simp[args] at h;obtain⟨rfl,rfl,rfl⟩:=h;exact⟨rfl,fun l hl=>by simp at hl,by simp⟩
 |v::vals,p,as,ls,b,h,hp=>by
  simp only[ae] at hp;simp only[args] at h;split at h
  ·cases h
  ·rename_i as' ls' b' hrest;obtain⟨i1,i3,i4⟩:=qg hrest (by omega);have up:∀k,nK (p+1) (p+1+vals.length) k→nK p (p+(v::vals).length) k:=by
    intro k hk;simp only[nK,ae] at hk ⊢;omega
   split at h
   ·split at h
    ·rename_i v' id ob hlo;simp only[aA,aH] at h;obtain⟨rfl,rfl,rfl⟩:=h;have k1:=mg hlo;refine⟨by simp[i1], ?_, ?_⟩
     ·intro l hl;rcases List.mem_cons.1 hl with rfl|hl
      ·exact⟨.inl ⟨Nat.le_refl _,by simp⟩,k1⟩
      ·obtain⟨q1,q3⟩:=i3 l hl;exact⟨up _ q1,q3⟩
     ·simp only[aL,List.nodup_cons];refine⟨?_,i4⟩;intro hm;obtain⟨l,hl,e⟩:=List.mem_map.1 hm;have:=(i3 l hl).1;simp only[nK] at this;omega
    ·cases h
   ·split at h
    ·split at h
     ·rename_i ts;split at h
      ·rename_i h64;split at h
       ·rename_i ts' ls1 b1 hcells;simp only[aA,aH] at h;obtain⟨rfl,rfl,rfl⟩:=h;obtain⟨j3,j4⟩:=oF hcells;refine⟨by simp[i1], ?_, ?_⟩
        ·intro l hl;rcases List.mem_append.1 hl with hl|hl
         ·obtain⟨q1,q2,q3⟩:=j3 l hl;exact⟨.inr ⟨q1,by simp only[ae];omega⟩,q3⟩
         ·obtain⟨q1,q3⟩:=i3 l hl;exact⟨up _ q1,q3⟩
        ·rw[dG,List.nodup_append];refine⟨j4,i4, ?_⟩;intro x hx y hy e;obtain⟨l,hl,e1⟩:=List.mem_map.1 hx;obtain⟨l',hl',e2⟩:=List.mem_map.1 hy;have q1:=(j3 l hl).1;have q2:=(j3 l hl).2.1;have q3:=(i3 l' hl').1;simp only[nK] at q3;omega
       ·cases h
      ·cases h
     ·cases h
    ·split at h
     ·rename_i v' hv';simp only[aA,aH] at h;obtain⟨rfl,rfl,rfl⟩:=h;refine⟨by simp[i1], ?_,i4⟩;intro l hl;obtain⟨q1,q3⟩:=i3 l hl;exact⟨up _ q1,q3⟩
     ·cases h
theorem rL{X Y:Cx}(hF:Y.F=X.F)(hc:∀ad v,¬X.U ad.block→X.w.cell? ad=some v→Y.w.cell? ad=some v∧¬Y.U ad.block):mG X Y:=fun _ _ k h=>h.Av hF hc k
def fq(ls:List (Nat×Nat×Ob)):List (Nat×Ob):=ls.map fun l=>(l.1,l.2.2)
def kA(E:Nat→Option Loc)(o:List (Nat×Ob))(ls:List (Nat×Nat×Ob))(v:Nat):Option Loc:=
 match get (ls.map fun l=>(l.1,l.2.1)) v with
 |some id=>(match get o id with|some b=>E b.bA|none=>none)
 |none=>none
def LB(E:Nat→Option Loc)(o:List (Nat×Ob))(ls:List (Nat×Nat×Ob))(bk:Nat):Prop:=∃l∈ls,sx E o l.2.1 bk
theorem lH{α:Type}{ls:List (Nat×Nat×Ob)}(hn:(ls.map (·.1)).Nodup)(g:Nat×Nat×Ob→α){l:Nat×Nat×Ob}(hl:l∈ls):get (ls.map fun l=>(l.1,g l)) l.1=some (g l):=
 mo (by rw[List.map_map];exact hn) (List.mem_map.2 ⟨l,hl,rfl⟩)
theorem fO{α:Type}{ls:List (Nat×Nat×Ob)}(g:Nat×Nat×Ob→α){p:Nat}{x:α}(h:get (ls.map fun l=>(l.1,g l)) p=some x):∃l∈ls,l.1=p∧g l=x:=by
 obtain⟨l,hl,e⟩:=List.mem_map.1 (get_mem h);cases e;exact⟨l,hl,rfl,rfl⟩
section
variable {ls:List (Nat×Nat×Ob)} (hk:(ls.map (·.1)).Nodup) (hlo:∀l∈ls,lP o l)
include hk hlo
omit hlo in
theorem mH{l:Nat×Nat×Ob}(hl:l∈ls){b:Ob}(hg:get o l.2.1=some b):kA E o ls l.1=E b.bA:=by
 simp only[kA,lH hk (fun l=>l.2.1) hl,hg]
theorem iF(bk:Nat):pb (fq ls) (kA E o ls) bk↔LB E o ls bk:=by
 constructor
 ·rintro ⟨p,ob,cap,sz,h1,h2⟩;obtain⟨l,hl,rfl,rfl⟩:=fO (fun l=>l.2.2) h1;obtain⟨b,hg,_,hver,_⟩:=hlo l hl;rw[hver,mH hk hl hg] at h2;exact⟨l,hl,b,cap,sz,hg,h2⟩
 ·rintro ⟨l,hl,b,cap,sz,hg,hE⟩;obtain⟨b',hg',_,hver,_⟩:=hlo l hl;exact⟨l.1,l.2.2,cap,sz,lH hk (fun l=>l.2.2) hl,by rw[hver,mH hk hl hg];exact hE⟩
omit hk in
theorem yp{bk:Nat}(h:LB E o ls bk):(cx F Pr E o w).U bk:=by
 obtain⟨l,hl,b,cap,sz,hg,hE⟩:=h;obtain⟨b',hg',hw,_⟩:=hlo l hl;rw[hg] at hg';cases hg';exact .inl ⟨_,b,cap,sz,hg,hw,hE⟩
end
theorem A4(R:Rel F Pr w0 lb N E n t o a w){bk:Nat}(h:(cx F Pr E o w).U bk):bk<w.heap.size:=by
 rcases h with⟨id,ob,cap,sz,g1,_,g3⟩|hpr
 ·exact(R.place id ob bk cap sz g1 g3).1
 ·exact Nat.lt_of_lt_of_le (R.pr.1 bk hpr).1 R.size
theorem uw(R:Rel F Pr w0 lb N E n t o a w){nn:Nat}{n':Nat→Prop}(hn:Fr n nn n'){cf:bH}(hcf:kU P F cf){f:Nat}{vals:List V}{lend:List Nat}{thaw:List (Nat×Nat)}(hth:∀p∈thaw,p.1<15)
  {xs:Array Value} (hx:vals.length=xs.size) (hr:∀(i:Nat) (v:V) (x:Value),vals[i]? =some v→xs[i]? =some x→eK (cx F Pr E o w) v x) {v:V} {db:List (Nat×Ob)}
  (h:dF cf nn o f vals lend thaw=some (v,db)):sZ P F f=true∧Calls P (F f) xs w fun e w'=>∃val E',e= .returned val∧Rel F Pr w0 lb N E' n' t (db++o) a w'∧eK (cx F Pr E' (db++o) w') v val:=by
 unfold dF at h;split at h
 ·cases h
 rename_i as ls B hargs;split at h;rotate_left
 ·cases h
 rename_i hcond;obtain⟨h1000,hdisj,hnd⟩:=hcond;split at h
 ·cases h
 rename_i res after hres;split at h;rotate_left
 ·cases h
 rename_i ups1 v' ups2 hlb hbk;split at h;rotate_left
 ·cases h
 rename_i hflat;simp only[aA,aH] at h;obtain⟨rfl,rfl⟩:=h;obtain⟨hlen,hls,hk⟩:=qg hargs (by omega);have hlo:∀l∈ls,lP o l:=fun l hl=>(hls l hl).2
 obtain⟨hokf,hcalls⟩:=hcf f as (fq ls) res after hres;refine⟨hokf, ?_⟩
 let Pr':Nat→Prop:=fun bk=>(cx F Pr E o w).U bk∧¬LB E o ls bk∧∀id∈B,¬sx E o id bk
 have hX0:∀bk,(cx F Pr' (kA E o ls) (fq ls) w).U bk→LB E o ls bk∨Pr' bk:=by
  rintro bk (⟨id,ob,cap,sz,g1,_,g3⟩|hpr)
  ·exact .inl ((iF hk hlo bk).1 ⟨id,ob,cap,sz,g1,g3⟩)
  ·exact .inr hpr
 have hBL:∀id∈B,∀l∈ls,l.2.1≠id:=by
  intro id hid l hl e;simp only[List.all_eq_true] at hdisj;have:=hdisj l.2.1 (List.mem_map.2 ⟨l,hl,rfl⟩);rw[e] at this;simp at this;exact this hid
 have D:Reads F Pr E o w B (cx F Pr' (kA E o ls) (fq ls) w):=by
  refine⟨rfl,rfl, ?_, ?_⟩
  ·intro bk hu h;rcases hX0 bk h with h|h
   ·exact hu (yp hlo h)
   ·exact hu h.1
  ·intro id hid bk hb h;rcases hX0 bk h with h|h
   ·obtain⟨l,hl,ob',cap',sz',q1,q2⟩:=h;obtain⟨ob,cap,sz,q3,q4⟩:=hb;exact hBL id hid l hl (R.jd _ _ ob' ob bk cap' sz' cap sz q1 q3 q2 q4)
   ·exact h.2.2 id hid hb
 have hE0:∀l∈ls,∀ob,get o l.2.1=some ob→(cx F Pr' (kA E o ls) (fq ls) w).E l.1=E ob.bA:=fun l hl ob hg=>mH hk hl hg
 obtain⟨_,hargsR⟩:=nY R D (xs:=xs.toList) hargs (by simpa using hx) (fun i v x h1 h2=>hr i v x h1 (by simpa using h2)) (fun id h=>h) hE0;have entry:Entry F Pr' (kA E o ls) as (fq ls) xs w:=by
  refine⟨by rw[hlen];exact hx,fun i v x h1 h2=>hargsR i v x h1 (by simpa using h2), ?_, ?_, ?_, ?_, ?_⟩
  ·intro p ob hg;obtain⟨l,hl,rfl,rfl⟩:=fO (fun l=>l.2.2) hg;obtain⟨b,loc,k1,k2,k3⟩:=w_ R D (hlo l hl);obtain⟨b',g1,g2,g3,g4,g5,_⟩:=hlo l hl;have:=(hls l hl).1;simp only[nK] at this;exact⟨g3,⟨by simp only[gS,Bool.or_eq_true,decide_eq_true_eq];omega,by omega⟩,g5,loc,by rw[mH hk hl k1];exact k2,k3⟩
  ·intro p ob bk cap sz hg hE;obtain⟨l,hl,b,c,s,k1,k2⟩:=(iF hk hlo bk).1 ⟨p,ob,cap,sz,hg,hE⟩;exact(R.place _ b bk c s k1 k2).1
  ·intro p p' ob ob' bk cap sz cap' sz' hg hg' hE hE';obtain⟨l,hl,rfl,rfl⟩:=fO (fun l=>l.2.2) hg;obtain⟨l',hl',rfl,rfl⟩:=fO (fun l=>l.2.2) hg';obtain⟨b,g1,_,g3,_⟩:=hlo l hl;obtain⟨b',g1',_,g3',_⟩:=hlo l' hl';rw[g3,mH hk hl g1] at hE;rw[g3',mH hk hl' g1'] at hE';have:=R.jd _ _ b b' bk cap sz cap' sz' g1 g1' hE hE';rw[iw (f:=fun l=>l.2.1) hnd hl hl' this]
  ·intro bA l hE;unfold kA at hE;split at hE
   ·rename_i id hid;obtain⟨l,hl,rfl,_⟩:=fO (fun l=>l.2.1) hid;have:=(hls l hl).1;simp only[nK] at this;omega
   ·cases hE
  ·refine⟨fun bk hb=>⟨A4 R hb.1,fun q=>hb.2.1 ((iF hk hlo bk).1 q)⟩, ?_⟩;rcases R.pr.2 with g0|⟨g1,g2,m,g3⟩
   ·exact .inl g0
   ·refine .inr ⟨Nat.lt_of_lt_of_le g1 R.size,fun q=> ?_,m,by rw[vE (R.frame _ g1 g2)];exact g3⟩;obtain⟨l,hl,b,c,s,k1,k2⟩:=(iF hk hlo _).1 q;rcases (R.place _ b _ c s k1 k2).2 with z|z
    ·exact absurd g1 (Nat.not_lt.2 z)
    ·exact g2 z
 refine(hcalls Pr' (kA E o ls) xs w entry).mono ?_;rintro e w' ⟨val,E',own,rfl,Bk⟩
 let E2:Nat→Option Loc:=fun v=>if v=nn+15 then some .nil else if nn≤v∧v<nn+16 then(get thaw (v-nn)).bind (fun _=>own (v-nn)) else E v
 refine⟨val,E2,rfl, ?_⟩;have hEold:∀bA l,E bA=some l→E2 bA=some l:=by
  intro bA l h;have hne:¬(nn≤bA∧bA<nn+16):=fun q=>hn.new bA q.1 q.2 (R.fresh bA l h)
  simp only[E2];rw[if_neg (by omega),if_neg hne];exact h
 have hEobj:∀id ob,get o id=some ob→E2 ob.bA=E ob.bA:=by
  intro id ob h;have hne:¬(nn≤ob.bA∧ob.bA<nn+16):=fun q=>hn.new ob.bA q.1 q.2 (R.iJ id ob h).1
  simp only[E2];rw[if_neg (by omega),if_neg hne]
 have hEown:∀q id,get thaw q=some id→E2 (nn+q)=own q:=by
  intro q id h;have hq16:=hth _ (get_mem h);simp only at hq16;simp only[E2];rw[if_neg (by omega),if_pos (by omega),show nn+q-nn=q from by omega,h];rfl
 have hE15:E2 (nn+15)=some .nil:=if_pos rfl;obtain⟨hlb1,hlb2⟩:=nu hlb;have hcls:∀id ob2,get ((ups1++ups2)++o) id=some ob2→get ups1 id=some ob2∨(get ups2 id=some ob2)∨(get o id=some ob2∧∀l∈ls,l.2.1≠id):=by
  intro id ob2 hg;rw[get_append,get_append] at hg;cases h1:get ups1 id with
  |some x=>rw[h1] at hg;simp at hg;exact .inl (by rw[hg])
  |none=>
   cases h2:get ups2 id with
   |some x=>rw[h1,h2] at hg;simp at hg;exact .inr (.inl (by rw[hg]))
   |none=>
    rw[h1,h2] at hg;simp at hg;refine .inr (.inr ⟨hg,fun l hl e=> ?_⟩);obtain⟨ob,hob⟩:=hlb2 l hl;rw[e,h1] at hob;cases hob
 have uf:∀l∈ls,get (fq ls) l.1=some l.2.2:=fun l hl=>lH hk (fun l=>l.2.2) hl
 have hNotL:∀id ob bk cap sz,get o id=some ob→E ob.bA=some (.fY bk cap sz)→(∀l∈ls,l.2.1≠id)→¬LB E o ls bk:=by
  rintro id ob bk cap sz h1 h2 h3 ⟨l,hl,ob',cap',sz',q1,q2⟩;exact h3 l hl (R.jd _ _ ob' ob bk cap' sz' cap sz q1 h1 q2 h2)
 have hLBlt:∀bk,LB E o ls bk→bk<w.heap.size:=fun bk h=>A4 (Pr:=Pr) R (yp hlo h)
 let LBk:Nat→Prop:=fun bk=>∃l∈ls,get after l.1≠none∧sx E o l.2.1 bk
 have hLBk:∀bk,LBk bk→LB E o ls bk:=fun bk ⟨l,hl,_,h⟩=>⟨l,hl,h⟩
 have hpre:∀(T2:List (Nat×Ob)),(∀u∈T2,∃q l,get thaw q=some u.1∧own q=some l∧u.2.bA=nn+q)→(∀id ob2,get ((ups1++T2)++o) id=some ob2→get ups1 id=some ob2∨(get T2 id=some ob2)∨(get o id=some ob2∧∀l∈ls,l.2.1≠id))→
   ∀bk,(cx F Pr E2 ((ups1++T2)++o) w').U bk→LBk bk∨(∃q cap sz id,get thaw q=some id∧own q=some (.fY bk cap sz))∨((cx F Pr E o w).U bk∧¬LB E o ls bk):=by
  rintro T2 hT hc bk (⟨id,ob,cap,sz,g1,g2,g3⟩|hpr)
  ·rcases hc id ob g1 with h|h|⟨h,h'⟩
   ·obtain⟨l,hl,b,e1,e3,e4⟩:=hlb1 (id,ob) (get_mem h);simp only at e1 e3 e4;cases e2:get after l.1 with
    |none=>
     rw[e2] at e4;subst e4;simp only[j9] at g3;rw[hE15] at g3;cases g3
    |some b'=>
     rw[e2] at e4;subst e4;refine .inl ⟨l,hl,by rw[e2];simp,b,cap,sz,by rw[e1];exact e3, ?_⟩;rw[←hEobj id b e3];exact g3
   ·obtain⟨q,l,e1,e2,e3⟩:=hT (id,ob) (get_mem h);simp only at e1 e3;rw[e3,hEown q id e1] at g3;exact .inr (.inl ⟨q,cap,sz,id,e1,g3⟩)
   ·rw[hEobj id ob h] at g3;exact .inr (.inr ⟨.inl ⟨id,ob,cap,sz,h,g2,g3⟩,hNotL id ob bk cap sz h g3 h'⟩)
  ·refine .inr (.inr ⟨.inr hpr, ?_⟩);rintro ⟨l,hl,ob',cap',sz',q1,q2⟩;have h1:=R.pr.1 bk hpr;rcases (R.place _ ob' bk cap' sz' q1 q2).2 with q|q
   ·omega
   ·exact h1.2 q
 have hhl:∀Y:Cx,Y.E=E2→∀p id bA,get (ls.map fun l=>(l.1,l.2.1,(get o l.2.1).elim 0 (·.bA))) p=some (id,bA)→∃ob,get (fq ls) p=some ob∧∀l,(rx F Pr' (kA E o ls) (fq ls) E' own w').E p=some l→Y.E bA=some l:=by
  intro Y hY p id bA hg;obtain⟨l,hl,rfl,e⟩:=fO (fun l=>(l.2.1,(get o l.2.1).elim 0 (·.bA))) hg;obtain⟨b,g1,_⟩:=hlo l hl;simp only[g1,Option.elim_some,aH] at e;obtain⟨rfl,rfl⟩:=e;refine⟨_,uf l hl,fun loc hloc=> ?_⟩;obtain⟨_,loc',h1,_⟩:=R.iJ _ b g1;have h2:=Bk.ext l.1 loc' (by rw[mH hk hl g1];exact h1);rw[show (rx F Pr' (kA E o ls) (fq ls) E' own w').E=E' from rfl,h2] at hloc;cases hloc;rw[hY];exact hEold _ _ h1
 have hfl:mG (rx F Pr' (kA E o ls) (fq ls) E' own w') {w:=w',U:=fun _=>False,E:=E2,F:=F}∨(!B.isEmpty)=true:=
  .inl (rL (by rfl) (fun ad v _ hcell=>⟨hcell,fun h=>h⟩))
 have hfl2:(!B.isEmpty)=true→res.flat=true:=by
  intro hb;rcases hflat with q|q
  ·rw[q] at hb;cases hb
  ·exact q.1
 have hthaw:=(uy (X:=rx F Pr' (kA E o ls) (fq ls) E' own w') (Y:={w:=w',U:=fun _=>False,E:=E2,F:=F}) (own:=own) (lent:=fq ls) ⟨rfl,fun q id h=>hEown q id h,fun _ _ _ _ _ _ h=>h,hhl _ rfl⟩ hfl hfl2 hbk Bk.res).2;have hU:=hpre ups2 (fun u hu=>by obtain⟨q,l,h1,h2,h3,_⟩:=hthaw u hu;exact⟨q,l,h1,h2,h3⟩) hcls;have hLX:∀bk,LB E o ls bk→(rx F Pr' (kA E o ls) (fq ls) E' own w').U bk:=fun bk h=> .inl ((iF hk hlo bk).2 h)
 have hmv:mG (rx F Pr' (kA E o ls) (fq ls) E' own w') (cx F Pr E2 ((ups1++ups2)++o) w')∨(!B.isEmpty)=true:=by
  cases hB:B with
  |cons x xs=>exact .inr rfl
  |nil=>
   refine .inl (rL (by rfl) (fun ad v hu hcell=>⟨hcell,fun h=>hu ?_⟩));rcases hU _ h with h|⟨q,cap,sz,id,_,h⟩|⟨h1,h2⟩
   ·exact hLX _ (hLBk _ h)
   ·exact .inr (.inr ⟨q,cap,sz,h⟩)
   ·exact .inr (.inl ⟨h1,h2,by rw[hB];intro id hid;simp at hid⟩)
 have hgone:∀b,(∃p ob cap' sz',get (fq ls) p=some ob∧get after p=none∧kA E o ls ob.bA=some (.fY b cap' sz'))→∃l∈ls,get after l.1=none∧sx E o l.2.1 b:=by
  rintro b ⟨p,ob,cap',sz',h1,h2,h3⟩;obtain⟨l,hl,rfl,rfl⟩:=fO (fun l=>l.2.2) h1;obtain⟨b',hg',_,hver,_⟩:=hlo l hl;rw[hver,mH hk hl hg'] at h3;exact⟨l,hl,h2,b',cap',sz',hg',h3⟩
 have H:Home (rx F Pr' (kA E o ls) (fq ls) E' own w') (cx F Pr E2 ((ups1++ups2)++o) w') own (fq ls) nn (ls.map fun l=>(l.1,l.2.1,(get o l.2.1).elim 0 (·.bA))) thaw:=by
  refine⟨rfl,fun q id h=>hEown q id h, ?_,hhl _ rfl⟩;intro q b cap sz hq xg h;have hge:=(Bk.fresh q b cap sz xg).1;rcases hU _ h with h|⟨q',cap',sz',id,h1,h2⟩|⟨h1,h3⟩
  ·rcases hge with hge|hge
   ·have:=hLBlt b (hLBk b h);omega
   ·obtain⟨l0,hl0,h0,hb0⟩:=hgone b hge;obtain⟨l,hl,ha,hb⟩:=h;obtain⟨ob1,c1,s1,x1,y1⟩:=hb;obtain⟨ob2,c2,s2,x2,y2⟩:=hb0;have:=R.jd _ _ ob1 ob2 b c1 s1 c2 s2 x1 x2 y1 y2;have:=iw (f:=fun l=>l.2.1) hnd hl hl0 this;rw[this] at ha;exact ha h0
  ·have:=Bk.jd q q' b cap sz cap' sz' xg h2;subst this;rw[hq] at h1;cases h1
  ·rcases hge with hge|hge
   ·have:=A4 R h1;omega
   ·obtain⟨l0,hl0,h0,hb0⟩:=hgone b hge;exact h3 ⟨l0,hl0,hb0⟩
 refine⟨?_,(uy H hmv hfl2 hbk Bk.res).1⟩;have hframe:∀bk,bk<w.heap.size→¬LB E o ls bk→w'.heap[bk]? =w.heap[bk]? :=fun bk h1 h2=>Bk.frame bk h1 fun h=>h2 ((iF hk hlo bk).1 h)
 have K:fT (cx F Pr E o w) (cx F Pr E2 ((ups1++ups2)++o) w'):=by
  refine⟨rfl,hEold,fun ad v hu hc=> ?_⟩;have hlt:ad.block<w.heap.size:=uv hc;refine⟨(j0 (hframe _ hlt fun h=>hu (yp hlo h))).trans hc,fun h=> ?_⟩;rcases hU _ h with h|⟨q,cap,sz,id,_,h⟩|⟨h1,h2⟩
  ·exact hu (yp hlo (hLBk _ h))
  ·rcases (Bk.fresh q _ cap sz h).1 with z|z
   ·omega
   ·obtain⟨l0,hl0,_,hb0⟩:=hgone _ z;exact hu (yp hlo ⟨l0,hl0,hb0⟩)
  ·exact hu h1
 have hplace:∀id ob bk cap sz,get ((ups1++ups2)++o) id=some ob→E2 ob.bA=some (.fY bk cap sz)→(∃b,get o id=some b∧b.bA=ob.bA∧E b.bA=some (.fY bk cap sz))∨∃q,get thaw q=some id∧ob.bA=nn+q∧own q=some (.fY bk cap sz):=by
  intro id ob bk cap sz hg hE;rcases hcls id ob hg with h|h|⟨h,_⟩
  ·obtain⟨l,hl,b,e1,e3,e4⟩:=hlb1 (id,ob) (get_mem h);simp only at e1 e3 e4;cases e2:get after l.1 with
   |none=>
    rw[e2] at e4;subst e4;simp only[j9] at hE;rw[hE15] at hE;cases hE
   |some b'=>
    rw[e2] at e4;subst e4;exact .inl ⟨b,e3,rfl,by rw[←hEobj id b e3];exact hE⟩
  ·obtain⟨q,l,h1,h2,h3,_⟩:=hthaw (id,ob) (get_mem h);simp only at h1 h3;rw[h3,hEown q id h1] at hE;exact .inr ⟨q,h1,h3,hE⟩
  ·exact .inl ⟨ob,h,rfl,by rw[←hEobj id ob h];exact hE⟩
 have hdead:∀bk,(∃p ob cap' sz',get (fq ls) p=some ob∧get after p=none∧kA E o ls ob.bA=some (.fY bk cap' sz'))→∀id ob b cap sz cap2 sz2,get ((ups1++ups2)++o) id=some ob→E2 ob.bA=some (.fY bk cap sz)→get o id=some b→E b.bA=some (.fY bk cap2 sz2)→False:=by
  intro bk hz id ob b cap sz cap2 sz2 hg hE h1 h3;obtain⟨l0,hl0,h0,ob2,c2,s2,x2,y2⟩:=hgone bk hz;have hid:=R.jd _ _ b ob2 bk cap2 sz2 c2 s2 h1 x2 h3 y2;subst hid;obtain⟨x,hx⟩:=hlb2 l0 hl0;rw[get_append,get_append,hx] at hg;simp only[Option.some_or,aA] at hg;subst hg;obtain⟨l,hl,b3,e1,e3,e4⟩:=hlb1 (l0.2.1,x) (get_mem hx);simp only at e1 e3 e4;have:=iw (f:=fun l=>l.2.1) hnd hl hl0 e1;rw[this,h0] at e4;subst e4;simp only[j9] at hE;rw[hE15] at hE;cases hE
 refine⟨Bk.os.trans R.os,Bk.tape.trans R.tape,Bk.output.trans R.output,Nat.le_trans R.size Bk.size, ?_,R.defers,R.nt,fun d v hv=>(R.tmps d v hv).mono K, ?_, ?_, ?_, ?_,R.pr,fun v l h=>hEold _ _ (R.ext v l h)⟩
 ·intro bk h1 h2;refine(hframe bk (Nat.lt_of_lt_of_le h1 R.size) ?_).trans (R.frame bk h1 h2);rintro ⟨l,hl,ob',cap',sz',q1,q2⟩;rcases (R.place _ ob' bk cap' sz' q1 q2).2 with q|q
  ·omega
  ·exact h2 q
 ·intro id ob hg;rcases hcls id ob hg with h|h|⟨h,hnl⟩
  ·obtain⟨l,hl,b,e1,e3,e4⟩:=hlb1 (id,ob) (get_mem h);simp only at e1 e3 e4;cases e2:get after l.1 with
   |none=>
    rw[e2] at e4;subst e4;exact⟨hn.add _ (by simp only[j9];omega) (by simp only[j9];omega),.nil,hE15,rfl,rfl⟩
   |some b'=>
   rw[e2] at e4;simp only[j9] at e4;obtain⟨hver,loc,hloc,_⟩:=R.iJ id b e3;obtain⟨b2,g1,g2,g3,g4,g5,g6,_⟩:=hlo l hl;rw[e1,e3] at g1;cases g1;obtain⟨k1,k2⟩:=Bk.iJ l.1 l.2.2 b' loc (uf l hl) e2 (by rw[mH hk hl (by rw[e1];exact e3)];exact hloc);subst e4;refine⟨hn.f_ _ hver,loc,hEold _ _ hloc, ?_⟩;cases loc with
   |nil=>exact⟨k1.1,by have:=k1.2;simp only at this ⊢;rw[←g6];exact this⟩
   |fY bk cap sz=>
    refine⟨by have:=k1.1;simp only at this ⊢;rw[←g4];exact this,k1.2.move rfl rfl (by simp only;exact g4.symm) (fun _=>k2) fun i j r t v hi ht hv=> ?_⟩;rcases hmv with q|q
    ·exact q _ _ (k2 i j r t hi ht) hv
    ·rcases hflat with q'|q'
     ·rw[q'] at q;cases q
     ·have hall:=q'.2;simp only[List.all_eq_true (l:=ups1)] at hall;exact hv.scalar (lO (hall _ (get_mem h)) hi ht)
  ·obtain⟨q,l,h1,h2,h3,h4,h5,h6,h7⟩:=hthaw (id,ob) (get_mem h);simp only at h1 h3 h4 h5 h6 h7;have hq16:=hth _ (get_mem h1);simp only at hq16;refine⟨by rw[h3];exact hn.add _ (by omega) (by omega),l,by rw[h3,hEown q id h1];exact h2, ?_⟩;cases l with
   |nil=>exact h6
   |fY bk cap sz=>
    refine⟨h6.1,h6.2.move rfl rfl rfl h6.2.cl fun i j r t v hi ht hv=> ?_⟩;rcases hmv with q|q
    ·exact q _ _ (h5 i j r t hi ht) hv
    ·exact hv.scalar (lO (h7 q) hi ht)
  ·obtain⟨hver,loc,hloc,hrl⟩:=R.iJ id ob h;refine⟨hn.f_ _ hver,loc,hEold _ _ hloc, ?_⟩;cases loc with
   |nil=>exact hrl
   |fY bk cap sz=>exact⟨hrl.1,hrl.2.mono K (hframe bk (R.place id ob bk cap sz h hloc).1 (hNotL id ob bk cap sz h hloc hnl))⟩
 ·intro id ob bk cap sz hg hE;rcases hplace id ob bk cap sz hg hE with⟨b,h1,h2,h3⟩|⟨q,h1,h2,h3⟩
  ·obtain⟨q1,q2⟩:=R.place id b bk cap sz h1 h3;exact⟨Nat.lt_of_lt_of_le q1 Bk.size,q2⟩
  ·obtain⟨q1,q2⟩:=Bk.fresh q bk cap sz h3;refine⟨q2, ?_⟩;rcases q1 with q1|q1
   ·exact .inl (Nat.le_trans R.size q1)
   ·obtain⟨l0,hl0,_,ob2,c2,s2,x2,y2⟩:=hgone bk q1;exact(R.place _ ob2 bk c2 s2 x2 y2).2
 ·intro id id' ob ob' bk cap sz cap' sz' hg hg' hE hE';rcases hplace id ob bk cap sz hg hE with⟨b,h1,h2,h3⟩|⟨q,h1,h2,h3⟩<;>rcases hplace id' ob' bk cap' sz' hg' hE' with⟨b',h1',h2',h3'⟩|⟨q',h1',h2',h3'⟩
  ·exact R.jd id id' b b' bk cap sz cap' sz' h1 h1' h3 h3'
  ·have q1:=(R.place id b bk cap sz h1 h3).1;rcases (Bk.fresh q' bk cap' sz' h3').1 with q2|q2
   ·omega
   ·exact(hdead bk q2 id ob b cap sz cap sz hg hE h1 h3).elim
  ·have q1:=(R.place id' b' bk cap' sz' h1' h3').1;rcases (Bk.fresh q bk cap sz h3).1 with q2|q2
   ·omega
   ·exact(hdead bk q2 id' ob' b' cap' sz' cap' sz' hg' hE' h1' h3').elim
  ·have:=Bk.jd q q' bk cap sz cap' sz' h3 h3';subst this;rw[h1] at h1';exact Option.some.inj h1'
 ·intro bA l hE;simp only[E2] at hE;split at hE
  ·rename_i hr;exact hn.add _ (by omega) (by omega)
  ·split at hE
   ·rename_i hr;exact hn.add _ hr.1 hr.2
   ·exact hn.f_ _ (R.fresh bA l hE)
end Mx
namespace Mx
open Go
variable {P:Program} {F:Nat→FuncId} {Pr:Nat→Prop} {w0:World} {lb:Lb} {N:Nat} {E:Nat→Option Loc} {n:Nat→Prop} {t:List (Nat×V)} {o:List (Nat×Ob)} {a:Act} {w:World}
def sI:MO→Bool
 | .call _ _ _ thaw=>thaw.all fun p=>decide (p.1<15)
 |_=>true
def iZ(P:Program)(F:Nat→FuncId):MO→Op→Bool
 | .eqs neg ks x y,op=>y8 P F neg ks x y op
 |m,.call c=>lv P F m c&&sI m
 |m,op=>dm P F m op
def qC(ops:Array Oper):Option (Nat×Bool)→Option (Nat×Bool)→Bool
 |none,none=>true
 |some (g,b),some (j,b')=>b==b'&&((ops[j]?).bind (·.dst)==some g)
 |_,_=>false
def t_(P:Program)(F:Nat→FuncId)(N:Nat)(ops:Array Oper)(m:gN)(x:Oper):Bool:=
 (m.dst==x.dst)&&(match x.dst with|some d=>decide (d<N)|none=>true)&&qC ops m.guard x.guard&&iZ P F m.op x.op
theorem bR{n':Nat→Prop}{oper:Oper}{v:V}{db:List (Nat×Ob)}(h:jz P F Pr w0 lb N n' t o a w oper v db){next:Act→World→Prop}{Q:Exit→Act→World→Prop}
  (hnext:∀E' val w',Rel F Pr w0 lb N E' n' t (db++o) a w'→eK (cx F Pr E' (db++o) w') v val→next (a.put oper.dst val) w'):oper.wp P a w next Q:=by
 obtain⟨val,w',E',hran,R,hv⟩:=h;have:=hnext E' val w' R hv;unfold Oper.wp;rcases hran with h|⟨h,rfl⟩
 ·rw[h];exact this
 ·rw[h];exact this
theorem na(f:FuncId)(xs:Array Value){n':Nat→Prop}{oper:Oper}{v:V}{db:List (Nat×Ob)}(he:(execOp a.eval oper).run P w= .ok (.enter f xs) w)
  (h:Calls P f xs w fun e w'=>∃val E',e= .returned val∧Rel F Pr w0 lb N E' n' t (db++o) a w'∧eK (cx F Pr E' (db++o) w') v val) {next:Act→World→Prop} {Q:Exit→Act→World→Prop}
  (hnext:∀E' val w',Rel F Pr w0 lb N E' n' t (db++o) a w'→eK (cx F Pr E' (db++o) w') v val→next (a.put oper.dst val) w'):oper.wp P a w next Q:=by
 unfold Oper.wp;rw[he,Oper.upon_enter];refine h.mono ?_;rintro e w' ⟨val,E',rfl,R,hv⟩;exact hnext E' val w' R hv
theorem rJ{f:Nat}(h:sZ P F f=true)(xs:Array Value)(w:World):(callFunc (F f) xs).run P w= .ok (.enter (F f) xs) w:=by
 unfold sZ at h;split at h
 ·rename_i fn hfn;simp only[aj,bne_iff_ne,ne_eq,Option.isSome_iff_exists] at h;obtain⟨h1,b,hb⟩:=h;simp[callFunc,hfn,h1,hb]
 ·cases h
theorem mR(R:Rel F Pr w0 lb N E n t o a w):∀{xs:List O} {ys:List Operand} {vs:List V},nO F xs ys=true→dH (look t) xs=some vs→
  vs.length=ys.length∧∀(i:Nat) (v:V) (x:Value),vs[i]? =some v→(ys.map a.eval)[i]? =some x→eK (cx F Pr E o w) v x
 |[],[],vs,_,h=>by simp[dH] at h;subst h;exact⟨rfl,fun i v x h=>by simp at h⟩
 |x::xs,y::ys,vs,hok,h=>by
  simp only[nO,aj] at hok;simp only[dH] at h;split at h
  ·rename_i v vs' h1 h2;cases h;obtain⟨i1,i2⟩:=mR R hok.2 h2;refine⟨by simp[i1],fun i u z hu hz=> ?_⟩;cases i with
   |zero=>simp at hu hz;subst hu hz;exact eV R hok.1 h1
   |succ i=>exact i2 i u z (by simpa using hu) (by simpa using hz)
  ·cases h
 |[],_::_,_,hok,_=>by simp[nO] at hok
 |_::_,[],_,hok,_=>by simp[nO] at hok
theorem wU{m:MO}{op:Op}(h:iZ P F m op=true)(hne:∀c,op≠.call c)(hm:∀neg ks x y,m≠.eqs neg ks x y):dm P F m op=true:=by
 unfold iZ at h;split at h
 ·exact(hm _ _ _ _ rfl).elim
 ·exact(hne _ rfl).elim
 ·exact h
theorem xX(R:Rel F Pr w0 lb N E n t o a w){nn:Nat}{n':Nat→Prop}(hn:Fr n nn n'){cf:bH}(hcf:kU P F cf){d:Nat}{m:MO}{oper:Oper}(hok:iZ P F m oper.op=true){v:V}{db:List (Nat×Ob)}
  (h:act cf nn d t o m=some (v,db)) {next:Act→World→Prop} {Q:Exit→Act→World→Prop}
  (hnext:∀E' val w',Rel F Pr w0 lb N E' n' t (db++o) a w'→eK (cx F Pr E' (db++o) w') v val→next (a.put oper.dst val) w'):oper.wp P a w next Q:=by
 by_cases hc:∃c,oper.op= .call c
 ·obtain⟨c,hop⟩:=hc;rw[hop] at hok;cases m with
  |eqs neg ks x y=>exact bR (uE R hn (oper:=oper) (by rw[hop];exact hok) h) hnext
  |len x=>simp only[iZ,aj] at hok;exact bR (zW R hn hop hok.1 h) hnext
  |gJ x=>simp only[iZ,aj] at hok;exact bR (xT R hn hop hok.1 h) hnext
  |app sz bytes x y=>simp only[iZ,aj] at hok;exact bR (z_ R hn hop hok.1 h) hnext
  |so sz bytes x y=>simp only[iZ,aj] at hok;exact bR (x_ R hn hop hok.1 h) hnext
  |Aw zero x=>simp only[iZ,aj] at hok;exact bR (z5 R hn hop hok.1 h) hnext
  |max x y=>simp only[iZ,aj] at hok;exact bR (zV R hn hop hok.1 h) hnext
  |min x y=>simp only[iZ,aj] at hok;exact bR (zU R hn hop hok.1 h) hnext
  |call f as lend thaw=>
   simp only[iZ,aj,sI,List.all_eq_true,decide_eq_true_eq] at hok;obtain⟨hok,hth⟩:=hok;simp only[lv] at hok;split at hok
   ·simp[okB] at hok
   ·rename_i g hg;simp only[aj] at hok;simp only[act] at h;split at h
    ·rename_i vals hvals;obtain⟨k1,k2⟩:=mR R hok.2 hvals;have hval:a.eval g= .func (.func (F f)) #[] #[]:=by
      have:=hok.1;unfold fU at this;split at this<;>first|(cases this;done)|skip
      all_goals simp_all[Act.eval]
     obtain⟨hf,hcalls⟩:=uw R hn hcf (xs:=c.args.map a.eval) hth (by simpa using k1) (fun i v x h1 h2=>k2 i v x h1 (by simpa using h2)) h;refine na (F f) (c.args.map a.eval) ?_ hcalls hnext;simp[execOp,hop,resolve,hg,hval,Deferred.ofValue,invoke,rJ hf]
    ·cases h
   ·cases hok
  |lz x as=>
   simp only[iZ,aj,sI,and_true] at hok;simp only[lv] at hok;split at hok
   ·simp[okB] at hok
   ·rename_i g hg;simp only[aj] at hok;simp only[act] at h;split at h
    ·rename_i f caps vals hx hvals;obtain⟨k1,k2⟩:=mR R hok.2 hvals;have hr:=cL R hok.1 hx;generalize hval:a.eval g=val at hr;cases hr with
     |fn _ _ cs hn' hrep=>
      have hlen:vals.length=c.args.size:=by simpa using k1
      obtain⟨hf,hcalls⟩:=uw R hn hcf (xs:=c.args.map a.eval++cs) (thaw:=[]) (by simp) (by simp[hlen,hn']) (fun i v x h1 h2=>by
       rw[cK] at h1;rw[Array.getElem?_append] at h2;simp only[Array.size_map,←hlen] at h2;split at h1
       ·rename_i hi;rw[if_pos hi] at h2;exact k2 i v x h1 (by simpa using h2)
       ·rename_i hi;rw[if_neg hi] at h2;rw[eT,al] at h1;obtain⟨q,hq,rfl⟩:=h1;exact .c _ _ (hrep _ q x hq h2)) h
      refine na (F f) (c.args.map a.eval++cs) ?_ hcalls hnext;simp[execOp,hop,resolve,hg,hval,Deferred.ofValue,invoke];rw[show (cx F Pr E o w).F f=F f from rfl];simp[rJ hf]
    ·cases h
   ·cases hok
  |_=>
   simp only[iZ,aj,lv] at hok;exfalso;obtain⟨hok,_⟩:=hok;revert hok;split<;>simp[okB]
 ·have hne:∀c,oper.op≠.call c:=fun c e=>hc ⟨c,e⟩
  have hop:=fun hm=>wU hok hne hm
  cases m with
  |eqs neg ks x y=>exact bR (uE R hn (oper:=oper) hok h) hnext
  |np=>exact bR (A1 R hn (hop (by intros;exact MO.noConfusion)) h) hnext
  |mv x=>exact bR (A2 R hn (hop (by intros;exact MO.noConfusion)) h) hnext
  |nil z=>exact bR (zQ R hn (hop (by intros;exact MO.noConfusion)) h) hnext
  |pick c x y=>exact bR (xW R hn (hop (by intros;exact MO.noConfusion)) h) hnext
  |alloc z=>exact bR (vW R hn (hop (by intros;exact MO.noConfusion)) h) hnext
  |box x=>exact bR (z6 R hn (hop (by intros;exact MO.noConfusion)) h) hnext
  |build z ps=>exact bR (vV R hn (hop (by intros;exact MO.noConfusion)) h) hnext
  |cE sz l z ps=>exact bR (tI R hn (hop (by intros;exact MO.noConfusion)) h) hnext
  |kQ sz l z ps=>exact bR (x8 R hn (hop (by intros;exact MO.noConfusion)) h) hnext
  |load ag k x=>exact bR (x5 R hn (hop (by intros;exact MO.noConfusion)) h) hnext
  |store k x y=>exact bR (vS R hn (hop (by intros;exact MO.noConfusion)) (fun h1 h2=>⟨qQ R h1 h2,lL R h1 h2⟩) h) hnext
  |bin op x y=>exact bR (z7 R hn (hop (by intros;exact MO.noConfusion)) h) hnext
  |beq ng x y=>exact bR (z8 R hn (hop (by intros;exact MO.noConfusion)) h) hnext
  |not x=>exact bR (zP R hn (hop (by intros;exact MO.noConfusion)) h) hnext
  |neg x=>exact bR (zR R hn (hop (by intros;exact MO.noConfusion)) h) hnext
  |qL k x=>exact bR (zY R hn (hop (by intros;exact MO.noConfusion)) h) hnext
  |yA x=>exact bR (z9 R hn (hop (by intros;exact MO.noConfusion)) h) hnext
  |Bf sz b z x=>exact bR (zS R hn (hop (by intros;exact MO.noConfusion)) h) hnext
  |Bg sz b z x y=>exact bR (zT R hn (hop (by intros;exact MO.noConfusion)) h) hnext
  |ll x lo hi=>exact bR (xS R hn (hop (by intros;exact MO.noConfusion)) h) hnext
  |rE sz x lo hi=>exact bR (xU R hn (hop (by intros;exact MO.noConfusion)) h) hnext
  |tW sz x lo hi mx=>exact bR (zO R hn (hop (by intros;exact MO.noConfusion)) h) hnext
  |cS off x=>exact bR (vU R hn (hop (by intros;exact MO.noConfusion)) h) hnext
  |eM sz x ix=>exact bR (vT R hn (hop (by intros;exact MO.noConfusion)) h) hnext
  |idx x ix=>exact bR (zX R hn (hop (by intros;exact MO.noConfusion)) h) hnext
  |yz ag off k x=>exact bR (zZ R hn (hop (by intros;exact MO.noConfusion)) h) hnext
  |ext i x=>exact bR (z4 R hn (hop (by intros;exact MO.noConfusion)) h) hnext
  |qF f cs=>exact bR (xZ R hn (hop (by intros;exact MO.noConfusion)) h) hnext
  |dx x=>exact bR (xY R hn (hop (by intros;exact MO.noConfusion)) h) hnext
  |_=>have:=hop (by intros;exact MO.noConfusion);revert this;unfold dm;split<;>simp_all
theorem kW(R:Rel F Pr w0 lb N E n t o a w){ops:Array Oper}{g:Option (Nat×Bool)}{x:Oper}(h:qC ops g x.guard=true){b:Bool}(hw:wanted t g=some b):Region.wanted x (yielded ops a.tmps)=b:=by
 unfold qC at h;split at h
 ·rename_i h1 h2;simp only[wanted,aA] at hw;subst hw;simp[Region.wanted,h2]
 ·rename_i h1 h2 g b1 j b2 hx;simp only[aj,beq_iff_eq] at h;obtain⟨rfl,hd⟩:=h;simp only[wanted] at hw;simp only[Region.wanted,hx,yielded,hd,Option.bind_some];split at hw
  ·rename_i v hv;cases hw;have:=(R.tmps g _ hv).o3.mz;rw[bY] at this;cases hq:a.tmps[g]? with
   |none=>rw[hq] at this;simp[undef] at this
   |some u=>rw[hq] at this;simp at this;subst this;simp
  ·rename_i hv;cases hw;have:=R.tmps g _ hv;cases this with
   |undef _ hb=>
    rw[bY] at hb;cases hq:a.tmps[g]? with
    |none=>simp
    |some u=>
     rw[hq] at hb;simp only[fh] at hb;cases u with
     |bool v=>exact(hb v rfl).elim
     |_=>simp
  ·cases hw
 ·cases h
end Mx
namespace Mx
open Go
def Sub(o o':List (Nat×Ob)):Prop:=∀id b,get o id=some b→get o' id=some b
variable {o o':List (Nat×Ob)}
theorem fL{α β:Type}{f g:α→Option β}(h:∀x y,f x=some y→g x=some y):∀{l:List α} {r:List β},dH f l=some r→dH g l=some r
 |[],r,hm=>hm
 |x::l,r,hm=>by
  simp only[dH] at hm ⊢;split at hm
  ·rename_i y ys h1 h2;rw[h x y h1,fL h h2];exact hm
  ·cases hm
theorem nU(S:Sub o o'){t y:T}(h:lG o t=some y):lG o' t=some y∧wr o' t=wr o t:=by
 cases t with
 |row id bA off len=>
  simp only[lG] at h ⊢;split at h
  ·rename_i b hg;rw[S id b hg];exact⟨h,by simp only[wr,hg,S id b hg]⟩
  ·cases h
 |ptr=>simp[lG] at h
 |fn=>simp[lG] at h
 |_=>exact⟨h,rfl⟩
theorem qP(S:Sub o o'){t y:T}(h:cl o t=some y):cl o' t=some y:=by
 cases t with
 |ptr=>simp[cl] at h
 |vp=>simp[cl] at h
 |fn=>simp[cl] at h
 |row id bA off len=>
  simp only[cl] at h ⊢;split at h
  ·rename_i hw;obtain⟨h1,h2⟩:=nU S h;rw[h2,if_pos hw];exact h1
  ·cases h
 |_=>exact h
theorem qJ(S:Sub o o'){t y:T}(h:yy o t=some y):yy o' t=some y∧wb o' t=wb o t:=by
 cases t with
 |ptr id bA i j=>
  simp only[yy] at h ⊢;split at h
  ·rename_i b hg;rw[S id b hg];split at h
   ·rename_i hv;split at h
    ·rename_i r hr;rw[al] at h;obtain⟨cells,hm,rfl⟩:=h;simp only[hv,if_true,hr];refine⟨?_, ?_⟩
     ·rw[fL (fun x y hx=>(nU S hx).1) hm];rfl
     ·simp only[wb,hg,S id b hg,hr,wr];congr 1;have:∀x∈r,wr o' x=wr o x:=by
       intro x hx;obtain⟨k,hk⟩:=List.getElem?_of_mem hx;obtain⟨z,_,hz⟩:=mS hm hk;exact(nU S hz).2
      clear hm hr
      induction r with
      |nil=>rfl
      |cons x r ih=>simp only[ct];rw[this x (by simp),ih (fun z hz=>this z (by simp[hz]))]
    ·cases h
   ·cases h
  ·cases h
 |_=>simp only[yy,wb] at h ⊢;exact nU S h
theorem mV(S:Sub o o'){t y:T}(h:im o t=some y):im o' t=some y∧uH o' t=uH o t:=by
 cases t with
 |fn f caps=>
  simp only[im,al] at h ⊢;obtain⟨cs,hm,rfl⟩:=h;refine⟨⟨cs,fL (fun x y hx=>(qJ S hx).1) hm,rfl⟩, ?_⟩;simp only[uH];have:∀x∈caps,wb o' x=wb o x:=by
   intro x hx;obtain⟨k,hk⟩:=List.getElem?_of_mem hx;obtain⟨z,_,hz⟩:=mS hm hk;exact(qJ S hz).2
  clear hm
  induction caps with
  |nil=>rfl
  |cons x r ih=>simp only[ct];rw[this x (by simp),ih (fun z hz=>this z (by simp[hz]))]
 |_=>simp only[im,uH] at h ⊢;exact qJ S h
theorem ue(S:Sub o o'){v y:V}(h:v.im o=some y):v.im o'=some y∧v.wr o'=v.wr o:=by
 cases v with
 |c t=>
  simp only[V.im,al] at h ⊢;obtain⟨z,hz,rfl⟩:=h;exact⟨⟨z,(mV S hz).1,rfl⟩,(mV S hz).2⟩
 |a ts=>
  simp only[V.im,al] at h ⊢;obtain⟨zs,hz,rfl⟩:=h;refine⟨⟨zs,fL (fun x y hx=>(mV S hx).1) hz,rfl⟩, ?_⟩;simp only[V.wr];have:∀x∈ts,uH o' x=uH o x:=by
   intro x hx;obtain⟨k,hk⟩:=List.getElem?_of_mem hx;obtain⟨z,_,hz⟩:=mS hz hk;exact(mV S hz).2
  clear hz
  induction ts with
  |nil=>rfl
  |cons x r ih=>simp only[ct];rw[this x (by simp),ih (fun z hz=>this z (by simp[hz]))]
 |hC=>simp[V.im] at h
 |undef=>simp[V.im] at h
theorem u_(S:Sub o o'){t:T}{r:List T×Nat}(h:place o t=some r):place o' t=some r:=by
 cases t with
 |ptr id bA i j=>
  simp only[place] at h ⊢;split at h
  ·rename_i b hg;rw[S id b hg];exact h
  ·cases h
 |_=>exact h
theorem jM(S:Sub o o'){t:T}{r:List (List T)}(h:rowsOf o t=some r):rowsOf o' t=some r∧lS o' t=lS o t:=by
 cases t with
 |row id bA off len=>
  simp only[rowsOf] at h ⊢;split at h
  ·rename_i b hg;rw[S id b hg];exact⟨h,by simp only[lS,hg,S id b hg]⟩
  ·cases h
 |_=>exact⟨h,rfl⟩
theorem pJ(S:Sub o o'){sz:Nat}{t:T}{r:List (List T)}(h:nh o sz t=some r):nh o' sz t=some r:=by
 cases t with
 |str s=>exact h
 |_=>
  simp only[nh] at h ⊢;split at h
  ·rename_i ys hy;rw[(jM S hy).1,(jM S hy).2];exact h
  ·cases h
theorem nv(S:Sub o o'){p:Nat}{v:V}{r:V×Nat×Ob}(h:gg o p v=some r):gg o' p v=some r:=by
 unfold gg at h ⊢;split at h
 ·split at h
  ·rename_i b hg;rw[S _ b hg];simp only;split at h
   ·rename_i hc;rw[if_pos hc];rw[al] at h ⊢;obtain⟨rows,hm,rfl⟩:=h;exact⟨rows,fL (fun x y hx=>fL (fun x y hx=>qP S hx) hx) hm,rfl⟩
   ·cases h
  ·cases h
 ·split at h
  ·rename_i b hg;rw[S _ b hg];exact h
  ·cases h
 ·cases h
theorem pU(S:Sub o o'){lend:List Nat}:∀{ts:List T} {k:Nat} {r:List T×List (Nat×Nat×Ob)×List Nat},jn o lend k ts=some r→jn o' lend k ts=some r
 |[],k,r,h=>h
 |t::ts,k,r,h=>by
  simp only[jn] at h ⊢;cases ha:jn o lend (k+1) ts with
  |none=>rw[ha] at h;cases h
  |some x=>
   obtain⟨as,ls,b⟩:=x;rw[ha] at h;rw[pU S ha];simp only at h ⊢;split at h
   ·rename_i hp;rw[if_pos hp];cases hl:gg o k (.c t) with
    |none=>rw[hl] at h;cases h
    |some y=>rw[hl] at h;rw[nv S hl];exact h
   ·rename_i hp;rw[if_neg hp];cases hl:im o t with
    |none=>rw[hl] at h;cases h
    |some y=>rw[hl] at h;rw[(mV S hl).1,(mV S hl).2];exact h
theorem sm(S:Sub o o'){lend:List Nat}:∀{vals:List V} {p:Nat} {r:List V×List (Nat×Nat×Ob)×List Nat},args o lend p vals=some r→args o' lend p vals=some r
 |[],p,r,h=>h
 |v::vals,p,r,h=>by
  simp only[args] at h ⊢;cases ha:args o lend (p+1) vals with
  |none=>rw[ha] at h;cases h
  |some x=>
   obtain⟨as,ls,b⟩:=x;rw[ha] at h;rw[sm S ha];simp only at h ⊢;split at h
   ·rename_i hp;rw[if_pos hp];cases hl:gg o p v with
    |none=>rw[hl] at h;cases h
    |some y=>rw[hl] at h;rw[nv S hl];exact h
   ·rename_i hp;rw[if_neg hp];split at h
    ·rename_i hc;rw[if_pos hc];split at h
     ·split at h
      ·rename_i h64;simp only[if_pos h64];split at h
       ·rename_i ts' ls' b' hcl;rw[pU S hcl];exact h
       ·cases h
      ·cases h
     ·cases h
    ·rename_i hc;rw[if_neg hc];cases hl:v.im o with
     |none=>rw[hl] at h;cases h
     |some y=>rw[hl] at h;rw[(ue S hl).1,(ue S hl).2];exact h
theorem mf(S:Sub o o'){nn:Nat}{after:List (Nat×Ob)}:∀{ls:List (Nat×Nat×Ob)} {r:List (Nat×Ob)},fy nn o after ls=some r→fy nn o' after ls=some r∧(ls.map fun l=>(l.1,l.2.1,(get o' l.2.1).elim 0 (·.bA)))=ls.map fun l=>(l.1,l.2.1,(get o l.2.1).elim 0 (·.bA))
 |[],r,h=>⟨h,rfl⟩
 |(p,id,ob)::ls,r,h=>by
  simp only[fy] at h ⊢;split at h
  ·rename_i b l h2 h3;obtain⟨i1,i2⟩:=mf S h3;rw[S id b h2,i1];refine⟨h, ?_⟩;simp only[aL,i2,h2,S id b h2]
  ·cases h
theorem oW(S:Sub o o'){cf:bH}{n f:Nat}{vals:List V}{lend:List Nat}{thaw:List (Nat×Nat)}{r:V×List (Nat×Ob)}(h:dF cf n o f vals lend thaw=some r):dF cf n o' f vals lend thaw=some r:=by
 unfold dF at h ⊢;cases ha:args o lend 0 vals with
 |none=>rw[ha] at h;cases h
 |some x=>
  obtain⟨as,ls,b⟩:=x;rw[ha] at h;rw[sm S ha];simp only at h ⊢;split at h
  ·rename_i hc;rw[if_pos hc];split at h
   ·cases h
   ·rename_i res after hres;cases hl:fy n o after ls with
    |none=>rw[hl] at h;cases h
    |some db=>
     rw[hl] at h;obtain⟨i1,i2⟩:=mf S hl;simp only[i1,i2];exact h
  ·cases h
theorem AV{t t':List (Nat×V)}{x:O}(h:∀k∈x.tmps,get t' k=get t k):look t' x=look t x:=by
 cases x with
 |t n=>exact h n (by simp[O.tmps])
 |k v=>rfl
 |fn f=>rfl
theorem gn{α β:Type}{f g:α→Option β}:∀{l:List α},(∀x∈l,f x=g x)→dH f l=dH g l
 |[],_=>rfl
 |x::l,h=>by simp only[dH];rw[h x (by simp),gn (fun y hy=>h y (by simp[hy]))]
theorem BY{cf:bH}{n d:Nat}{t t':List (Nat×V)}{m:MO}(h:∀k∈m.tmps,get t' k=get t k):act cf n d t' o m=act cf n d t o m:=by
 have L:∀x:O,(∀k∈x.tmps,k∈m.tmps)→look t' x=look t x:=fun x hx=>AV fun k hk=>h k (hx k hk)
 have LT:∀x:O,(∀k∈x.tmps,k∈m.tmps)→eh t' x=eh t x:=fun x hx=>by simp only[eh,L x hx]
 have LI:∀x:O,(∀k∈x.tmps,k∈m.tmps)→nr t' x=nr t x:=fun x hx=>by simp only[nr,L x hx]
 have LBo:∀x:O,(∀k∈x.tmps,k∈m.tmps)→jl t' x=jl t x:=fun x hx=>by simp only[jl,L x hx]
 have LN:∀x:O,(∀k∈x.tmps,k∈m.tmps)→iM t' x=iM t x:=fun x hx=>by simp only[iM,L x hx]
 have LG:∀x:O,(∀k∈x.tmps,k∈m.tmps)→oC t' x=oC t x:=fun x hx=>by simp only[oC,L x hx]
 have LA:∀x:O,(∀k∈x.tmps,k∈m.tmps)→jm t' x=jm t x:=fun x hx=>by simp only[jm,L x hx]
 have LO:∀(x:Option O) (dd:Nat),(∀k∈mb x,k∈m.tmps)→nN t' dd x=nN t dd x:=fun x dd hx=>by
  cases x with
  |none=>rfl
  |some x=>exact LN x hx
 cases m with
 |build zero parts=>
  simp only[act];congr 1;apply gn;intro x hx;rw[LA x.2.2 (fun k hk=>by simp only[MO.tmps,dX];exact⟨x,hx,hk⟩)]
 |cE sz len zero parts=>
  simp only[act];congr 1;apply gn;intro x hx;rw[LA x.2 (fun k hk=>by simp only[MO.tmps,dX];exact⟨x,hx,hk⟩)]
 |kQ sz len zero parts=>
  simp only[act];congr 1;apply gn;intro x hx;rw[LA x.2 (fun k hk=>by simp only[MO.tmps,dX];exact⟨x,hx,hk⟩)]
 |call f as lend thaw=>
  simp only[act];rw[gn (f:=look t') (g:=look t) fun x hx=>L x fun k hk=>by simp only[MO.tmps,dX];exact⟨x,hx,hk⟩]
 |lz f as=>
  simp only[act];rw[gn (f:=look t') (g:=look t) fun x hx=>L x fun k hk=>by simp only[MO.tmps,eY,dX];exact .inr ⟨x,hx,hk⟩,LT f fun k hk=>by simp only[MO.tmps,eY];exact .inl hk]
 |qF f caps=>
  simp only[act];rw[gn (f:=eh t') (g:=eh t) fun x hx=>LT x fun k hk=>by simp only[MO.tmps,dX];exact⟨x,hx,hk⟩]
 |pick c x y=>
  simp only[act];rw[LBo c (fun k hk=>by simp[MO.tmps,hk])];cases jl t c with
  |none=>rfl
  |some b=>cases b<;>simp[L x (fun k hk=>by simp[MO.tmps,hk]),L y (fun k hk=>by simp[MO.tmps,hk])]
 |ll x lo hi=>
  simp only[act];rw[LT x (fun k hk=>by simp[MO.tmps,hk])];cases eh t x with
  |none=>rfl
  |some z=>cases z<;>first|rfl|(simp only[LO lo 0 (fun k hk=>by simp[MO.tmps,hk]),LO hi _ (fun k hk=>by simp[MO.tmps,hk])])
 |rE sz x lo hi=>
  simp only[act];rw[LT x (fun k hk=>by simp[MO.tmps,hk])];simp only[LO lo 0 (fun k hk=>by simp[MO.tmps,hk]),LO hi _ (fun k hk=>by simp[MO.tmps,hk])]
 |tW sz x lo hi mx=>
  simp only[act];rw[LT x (fun k hk=>by simp[MO.tmps,hk])];simp only[LO lo 0 (fun k hk=>by simp[MO.tmps,hk]),LO hi _ (fun k hk=>by simp[MO.tmps,hk]),LO mx _ (fun k hk=>by simp[MO.tmps,hk])]
 |_=>simp only[act,MO.tmps,eY] at* <;>simp_all
theorem zN(S:Sub o o'){cf:bH}{n d:Nat}{t:List (Nat×V)}{m:MO}{r:V×List (Nat×Ob)}(h:act cf n d t o m=some r):act cf n d t o' m=some r:=by
 cases m with
 |cE sz len zero parts=>
  simp only[act,al] at h ⊢;obtain⟨ps,hm,rfl⟩:=h;refine⟨ps,fL ?_ hm,rfl⟩;intro x y hx;split at hx
  ·split at hx
   ·rename_i hc;rw[if_pos hc];rw[al] at hx ⊢;obtain⟨z,hz,rfl⟩:=hx;exact⟨z,fL (fun x y hx=>qP S hx) hz,rfl⟩
   ·cases hx
  ·cases hx
 |kQ sz len zero parts=>
  simp only[act,al] at h ⊢;obtain⟨ps,hm,rfl⟩:=h;refine⟨ps,fL ?_ hm,rfl⟩;intro x y hx;split at hx
  ·split at hx
   ·rename_i hc;rw[if_pos hc];rw[al] at hx ⊢;obtain⟨z,hz,rfl⟩:=hx;exact⟨z,fL (fun x y hx=>qP S hx) hz,rfl⟩
   ·cases hx
  ·cases hx
 |load agg k a=>
  simp only[act] at h ⊢;split at h
  ·cases h
  ·split at h
   ·cases h
   ·rename_i hp;rw[u_ S hp];exact h
 |store k a x=>
  simp only[act] at h ⊢;split at h
  ·rename_i cs0 _ _;split at h
   ·rename_i b hg;rw[S _ b hg];simp only;split at h
    ·rename_i hc;rw[if_pos hc];split at h
     ·rename_i cs hr hcs;rw[hr];have:(if b.bx=true then some cs0 else dH (cl o') cs0)=some cs:=by
       split at hcs
       ·rename_i hb;rw[if_pos hb];exact hcs
       ·rename_i hb;rw[if_neg hb];exact fL (fun x y hx=>qP S hx) hcs
      rw[this];exact h
     ·cases h
    ·cases h
   ·cases h
  ·cases h
 |yA x=>
  simp only[act] at h ⊢;split at h
  ·split at h
   ·rename_i rows hr;rw[(jM S hr).1,(jM S hr).2];exact h
   ·cases h
  ·cases h
 |rE sz x lo hi=>
  simp only[act] at h ⊢;split at h
  ·split at h
   ·rename_i b l u hg h1 h2;rw[S _ b hg,h1,h2];exact h
   ·cases h
  ·cases h
 |so sz bytes x y=>
  simp only[act] at h ⊢;split at h
  ·split at h
   ·rename_i ys b hy hg;rw[pJ S hy,S _ b hg];exact h
   ·cases h
  ·cases h
 |tW sz x lo hi mx=>
  simp only[act] at h ⊢;split at h
  ·split at h
   ·split at h
    ·split at h
     ·rename_i hc;rw[if_pos hc];split at h
      ·rename_i hm;rw[if_pos hm];exact h
      ·rename_i hm;rw[if_neg hm];split at h
       ·exact h
       ·exact h
       ·split at h
        ·rename_i b hg;rw[S _ b hg];exact h
        ·cases h
       ·cases h
     ·cases h
    ·cases h
   ·cases h
  ·cases h
 |eM sz x ix=>
  simp only[act] at h ⊢;split at h
  ·split at h
   ·rename_i b hg;rw[S _ b hg];exact h
   ·cases h
  ·exact h
  ·cases h
 |app sz bytes x y=>
  simp only[act] at h ⊢;split at h
  ·split at h
   ·cases h
   ·rename_i ys hy;rw[pJ S hy];simp only;split at h
    ·rename_i hb;rw[if_pos hb];split at h
     ·exact h
     ·split at h
      ·rename_i b hg;rw[S _ b hg];exact h
      ·cases h
     ·cases h
    ·cases h
  ·cases h
 |Aw zero x=>
  simp only[act] at h ⊢;split at h
  ·exact h
  ·exact h
  ·split at h
   ·rename_i b hg;rw[S _ b hg];exact h
   ·cases h
  ·cases h
 |call f as lend thaw=>
  simp only[act] at h ⊢;split at h
  ·exact oW S h
  ·cases h
 |lz x as=>
  simp only[act] at h ⊢;split at h
  ·exact oW S h
  ·cases h
 |_=>exact h
end Mx
namespace Mx
open Go
def fE(S:Nat→Bool):Nat→List ig→List (Nat×V)→List (Nat×V)
 |_,[],t=>t
 |i,e::es,t=>fE S (i+1) es (if S i then h_ t e.dst e.v else t)
def fS(S:Nat→Bool):Nat→List ig→List (Nat×Ob)→List (Nat×Ob)
 |_,[],o=>o
 |i,e::es,o=>fS S (i+1) es (if S i then e.db++o else o)
theorem kL(t:List (Nat×V))(d:Option Nat)(v:V)(x:Nat):get (h_ t d v) x=if d=some x then some v else get t x:=by
 cases d with
 |none=>rfl
 |some d=>
  simp only[h_,get,aA];by_cases h:x=d
  ·subst h;simp
  ·have:¬d=x:=fun e=>h e.symm
   simp[h,this]
theorem fW{α:Type}:∀{l:List (Nat×α)} {x:Nat},x∉l.map (·.1)→get l x=none
 |[],_,_=>rfl
 |(k,v)::l,x,h=>by
  simp only[aL,List.mem_cons,not_or] at h;simp only[get,if_neg h.1];exact fW h.2
theorem j_{S S':Nat→Bool}{x:Nat}:∀{es:List ig} {i:Nat} {t t':List (Nat×V)},(∀j e,es[j]? =some e→e.dst=some x→S (i+j)=S' (i+j))→get t x=get t' x→get (fE S i es t) x=get (fE S' i es t') x
 |[],i,t,t',_,h=>h
 |e::es,i,t,t',hs,h=>by
  simp only[fE];refine j_ (fun j e' h1 h2=>by have:=hs (j+1) e' (by simpa using h1) h2;rw[show i+1+j=i+(j+1) from by omega];exact this) ?_;by_cases hd:e.dst=some x
  ·have:=hs 0 e (by simp) hd;simp only[Nat.add_zero] at this;rw[this];split
   ·simp[kL,hd]
   ·exact h
  ·have e1:∀t:List (Nat×V),get (h_ t e.dst e.v) x=get t x:=fun t=>by rw[kL,if_neg hd]
   split<;>split<;>simp[e1,h]
theorem kh{S S':Nat→Bool}{x:Nat}:∀{es:List ig} {i:Nat} {t t':List (Nat×Ob)},(∀j e,es[j]? =some e→x∈e.W→S (i+j)=S' (i+j))→get t x=get t' x→get (fS S i es t) x=get (fS S' i es t') x
 |[],i,t,t',_,h=>h
 |e::es,i,t,t',hs,h=>by
  simp only[fS];refine kh (fun j e' h1 h2=>by have:=hs (j+1) e' (by simpa using h1) h2;rw[show i+1+j=i+(j+1) from by omega];exact this) ?_;by_cases hd:x∈e.W
  ·have:=hs 0 e (by simp) hd;simp only[Nat.add_zero] at this;rw[this];split
   ·simp[get_append,h]
   ·exact h
  ·have e1:∀t:List (Nat×Ob),get (e.db++t) x=get t x:=fun t=>by rw[get_append,fW hd];simp
   split<;>split<;>simp[e1,h]
theorem sq{S S':Nat→Bool}:∀{es:List ig} {i:Nat} {t:List (Nat×V)},(∀j,j<es.length→S (i+j)=S' (i+j))→fE S i es t=fE S' i es t
 |[],_,_,_=>rfl
 |e::es,i,t,h=>by
  simp only[fE];have h0:=h 0 (by simp);simp only[Nat.add_zero] at h0;rw[h0];exact sq fun j hj=>by rw[show i+1+j=i+(j+1) from by omega];exact h (j+1) (by simp;omega)
theorem su{S S':Nat→Bool}:∀{es:List ig} {i:Nat} {t:List (Nat×Ob)},(∀j,j<es.length→S (i+j)=S' (i+j))→fS S i es t=fS S' i es t
 |[],_,_,_=>rfl
 |e::es,i,t,h=>by
  simp only[fS];have h0:=h 0 (by simp);simp only[Nat.add_zero] at h0;rw[h0];exact su fun j hj=>by rw[show i+1+j=i+(j+1) from by omega];exact h (j+1) (by simp;omega)
def fa(S:Nat→Bool)(k:Nat):Nat→Bool:=fun j=>S j||j==k
theorem sr{S:Nat→Bool}{x:Nat}:∀{es:List ig} {i k:Nat} {e:ig} {t:List (Nat×V)},i≤k→es[k-i]? =some e→(∀j e',es[j]? =some e'→S (i+j)=true→k<i+j→e.dst=some x→e'.dst≠some x)→S k=false→
  get (fE (fa S k) i es t) x=get (h_ (fE S i es t) e.dst e.v) x
 |[],i,k,e,t,hk,he,_,_=>by simp at he
 |f::es,i,k,e,t,hk,he,hw,hS=>by
  simp only[fE];by_cases hik:i=k
  ·subst hik;simp at he;subst he;have h1:fa S i i=true:=by simp[fa]
   rw[h1,hS];simp only[if_true,az,if_false];rw[kL];by_cases hd:f.dst=some x
   ·rw[if_pos hd];have:get (fE (fun _=>false) (i+1) es (h_ t f.dst f.v)) x=some f.v:=by
     have z:∀(es:List ig) (i:Nat) (t:List (Nat×V)),fE (fun _=>false) i es t=t:=by
      intro es
      induction es with
      |nil=>intro i t;rfl
      |cons e es ih=>intro i t;simp only[fE];exact ih _ _
     rw[z,kL,if_pos hd]
    rw[←this];refine j_ (fun j e' h1 h2=> ?_) rfl;cases hq:fa S i (i+1+j) with
    |false=>rfl
    |true=>
     exfalso;have hq':S (i+1+j)=true:=by simp only[fa,Bool.or_eq_true,beq_iff_eq] at hq;rcases hq with q|q;exact q;omega
     exact hw (j+1) e' (by simpa using h1) (by rw[show i+(j+1)=i+1+j from by omega];exact hq') (by omega) hd h2
   ·rw[if_neg hd];exact j_ (fun j e' h1 h2=>by have:¬(i+1+j=i):=(by omega);simp[fa,this]) (by rw[kL,if_neg hd])
  ·have h1:fa S k i=S i:=by have:¬(i=k):=hik;simp[fa,this]
   rw[h1];refine sr (by omega) ?_ (fun j e' q1 q2 q3 q4=>hw (j+1) e' (by simpa using q1) (by rw[show i+(j+1)=i+1+j from by omega];exact q2) (by omega) q4) hS;rw[show k-i=(k-(i+1))+1 from by omega] at he;simpa using he
theorem sv{S:Nat→Bool}{x:Nat}:∀{es:List ig} {i k:Nat} {e:ig} {t:List (Nat×Ob)},i≤k→es[k-i]? =some e→(∀j e',es[j]? =some e'→S (i+j)=true→k<i+j→x∈e.W→x∉e'.W)→S k=false→
  get (fS (fa S k) i es t) x=get (e.db++fS S i es t) x
 |[],i,k,e,t,hk,he,_,_=>by simp at he
 |f::es,i,k,e,t,hk,he,hw,hS=>by
  simp only[fS];by_cases hik:i=k
  ·subst hik;simp at he;subst he;have h1:fa S i i=true:=by simp[fa]
   rw[h1,hS];simp only[if_true,az,if_false];by_cases hd:x∈f.W
   ·have z:∀(es:List ig) (i:Nat) (t:List (Nat×Ob)),fS (fun _=>false) i es t=t:=by
     intro es
     induction es with
     |nil=>intro i t;rfl
     |cons e es ih=>intro i t;simp only[fS];exact ih _ _
    have hno:∀(S':Nat→Bool),(∀j,S' (i+1+j)=S (i+1+j))→∀t:List (Nat×Ob),get (fS S' (i+1) es t) x=get t x:=by
     intro S' hS' t;have:get (fS (fun _=>false) (i+1) es t) x=get t x:=by rw[z]
     rw[←this];refine kh (fun j e' h1 h2=> ?_) rfl;cases hq:S' (i+1+j) with
     |false=>rfl
     |true=>
      exfalso;rw[hS'] at hq;exact hw (j+1) e' (by simpa using h1) (by rw[show i+(j+1)=i+1+j from by omega];exact hq) (by omega) hd h2
    rw[hno (fa S i) (fun j=>by have:¬(i+1+j=i):=(by omega);simp[fa,this]),get_append,get_append,hno S (fun _=>rfl)]
   ·rw[get_append,fW hd];simp only[Option.none_or];exact kh (fun j e' h1 h2=>by have:¬(i+1+j=i):=(by omega);simp[fa,this]) (by rw[get_append,fW hd];simp)
  ·have h1:fa S k i=S i:=by have:¬(i=k):=hik;simp[fa,this]
   rw[h1];refine sv (by omega) ?_ (fun j e' q1 q2 q3 q4=>hw (j+1) e' (by simpa using q1) (by rw[show i+(j+1)=i+1+j from by omega];exact q2) (by omega) q4) hS;rw[show k-i=(k-(i+1))+1 from by omega] at he;simpa using he
theorem nc{cf:bH}{n:Nat}:∀{ms:List gN} {as:List (List Nat)} {i:Nat} {t:List (Nat×V)} {o:List (Nat×Ob)} {acc:List (Nat×ig)} {r:List (Nat×V)×List (Nat×Ob)},eC cf n i ms as t o acc=some r→
  ∃es:List ig,es.length=ms.length∧r=(fE (fun _=>true) i es t,fS (fun _=>true) i es o)∧
   ∀j m,ms[j]? =some m→∃a e,as[j]? =some a∧es[j]? =some e∧gM cf n (i+j) m (fE (fun q=>decide (q<i+j)) i es t) (fS (fun q=>decide (q<i+j)) i es o)=some e∧
    (∀x∈acc,a.contains x.1=true∨e.apart x.2=true)∧(∀j' e',j'<j→es[j']? =some e'→a.contains (i+j')=true∨e.apart e'=true)
 |[],as,i,t,o,acc,r,h=>by
  simp only[eC,aA] at h;subst h;exact⟨[],rfl,rfl,fun j m hj=>by simp at hj⟩
 |m::ms,[],i,t,o,acc,r,h=>by simp[eC] at h
 |m::ms,a::as,i,t,o,acc,r,h=>by
  simp only[eC] at h;split at h
  ·rename_i e he;split at h
   ·rename_i hc;obtain⟨es,h1,h2,h3⟩:=nc h;have z:∀(es:List ig) (k:Nat) (t:List (Nat×V)),i≤k→fE (fun q=>decide (q<i)) k es t=t:=by
     intro es
     induction es with
     |nil=>intro k t _;rfl
     |cons e es ih=>intro k t hk;simp only[fE];rw[if_neg (by simp;omega)];exact ih _ _ (by omega)
    have z2:∀(es:List ig) (k:Nat) (t:List (Nat×Ob)),i≤k→fS (fun q=>decide (q<i)) k es t=t:=by
     intro es
     induction es with
     |nil=>intro k t _;rfl
     |cons e es ih=>intro k t hk;simp only[fS];rw[if_neg (by simp;omega)];exact ih _ _ (by omega)
    refine⟨e::es,by simp[h1], ?_, ?_⟩
    ·rw[h2];simp only[fE,fS,if_true]
    ·intro j m' hj;cases j with
     |zero=>
      simp at hj;subst hj;refine⟨a,e,rfl,rfl, ?_, ?_,fun j' e' h=>by omega⟩
      ·rw[Nat.add_zero,z _ _ _ (Nat.le_refl _),z2 _ _ _ (Nat.le_refl _)];exact he
      ·intro x hx;simp only[List.all_eq_true,Bool.or_eq_true] at hc;exact hc x hx
     |succ j=>
      obtain⟨a',e',q1,q2,q3,q4,q5⟩:=h3 j m' (by simpa using hj);refine⟨a',e',by simpa using q1,by simpa using q2, ?_,fun x hx=>q4 x (df _ hx), ?_⟩
      ·simp only[fE,fS];rw[if_pos (by simp),if_pos (by simp),show i+(j+1)=i+1+j from by omega];exact q3
      ·intro j' e2 hj' he2;cases j' with
       |zero=>
        simp at he2;subst he2;exact q4 (i,e) (dB ..)
       |succ j'=>
        have:=q5 j' e2 (by omega) (by simpa using he2);rw[show i+(j'+1)=i+1+j' from by omega];exact this
   ·cases h
  ·cases h
def xh(m:gN):List Nat:=match m.guard with
 |some (g,_)=>[g]
 |none=>[]
def ot(m:gN):List Nat:=m.op.tmps++xh m
def lB(m m':gN):Bool:=(match m.dst with|some d=> !(ot m').contains d&&(m'.dst !=some d)|none=>true)&&(match m'.dst with|some d=> !(ot m).contains d|none=>true)
def lu(P:Program)(F:Nat→FuncId)(N:Nat)(xs:Array Oper)(ms:List gN)(as:List (List Nat))(i:Nat):Bool:=
 match ms[i]?,as[i]?,xs[i]? with
 |some m,some a,some x=>
  t_ P F N xs m x&&a.all (fun j=>decide (j<i))&&a.all (fun j=>x.after.any fun e=>Region.binds .any e&&(e.on==j||(match as[e.on]? with|some b=>b.contains j|none=>false)))&&
  x.after.all (fun e=> !Region.binds .any e||decide (e.on<i))&&(List.range i).all fun j=>a.contains j||(match ms[j]? with|some m'=>lB m m'|none=>false)
 |_,_,_=>false
def wR(P:Program)(F:Nat→FuncId)(N:Nat)(xs:Array Oper)(ms:List gN)(as:List (List Nat)):Bool:=
 P.follows .mixedOrders&&ms.length==xs.size&&(List.range ms.length).all (lu P F N xs ms as)
def NS(nb:Nat)(S:Nat→Bool)(k:Nat):Prop:=k<nb∨∃i,S i=true∧nb+16*i≤k∧k<nb+16*i+16
theorem Ar{nb:Nat}{S:Nat→Bool}{i:Nat}(h:S i=false):Fr (NS nb S) (nb+16*i) (NS nb (fa S i)):=by
 refine⟨?_, ?_, ?_⟩
 ·rintro k h1 h2 (h3|⟨j,h3,h4,h5⟩)
  ·omega
  ·have:j=i:=by omega
   subst this;rw[h] at h3;cases h3
 ·rintro k (h3|⟨j,h3,h4,h5⟩)
  ·exact .inl h3
  ·exact .inr ⟨j,by simp[fa,h3],h4,h5⟩
 ·intro k h1 h2;exact .inr ⟨i,by simp[fa],h1,by omega⟩
theorem uk{cf:bH}{n i:Nat}{m:gN}{t:List (Nat×V)}{o:List (Nat×Ob)}{e:ig}(h:gM cf n i m t o=some e):e.dst=m.dst:=by
 unfold gM at h;split at h
 ·rw[al] at h;obtain⟨r,_,rfl⟩:=h;rfl
 ·cases h;rfl
 ·cases h
variable {P:Program} {F:Nat→FuncId} {Pr:Nat→Prop} {w0:World} {lb:Lb} {N:Nat}
theorem Rel.wX{E:Nat→Option Loc}{n n':Nat→Prop}{t:List (Nat×V)}{o:List (Nat×Ob)}{a:Act}{w:World}(R:Rel F Pr w0 lb N E n t o a w)(h:∀k,n k→n' k):Rel F Pr w0 lb N E n' t o a w:=R.same rfl rfl rfl rfl h
theorem Rel.BT{E:Nat→Option Loc}{n:Nat→Prop}{t t':List (Nat×V)}{o o':List (Nat×Ob)}{a:Act}{w:World}(R:Rel F Pr w0 lb N E n t o a w)(ht:∀x,get t' x=get t x)(ho:∀x,get o' x=get o x):Rel F Pr w0 lb N E n t' o' a w:=
 R.sub (fun d v h=>by rw[←ht];exact h) fun id ob h=>⟨ob,by rw[←ho];exact h,rfl,rfl,rfl,rfl,fun h=>h⟩
section
variable {cf:bH} {xs:Array Oper} {ms:List gN} {as:List (List Nat)} {nb:Nat} {es:List ig} {t0:List (Nat×V)} {o0:List (Nat×Ob)}
theorem vz(hok:(List.range ms.length).all (lu P F N xs ms as)=true)
  (hes:∀j m,ms[j]? =some m→∃a e,as[j]? =some a∧es[j]? =some e∧gM cf nb j m (fE (fun q=>decide (q<j)) 0 es t0) (fS (fun q=>decide (q<j)) 0 es o0)=some e∧(∀j' e',j'<j→es[j']? =some e'→a.contains j'=true∨e.apart e'=true))
  (hlen:es.length=ms.length) {S:Nat→Bool} {i:Nat} {m:gN} {e:ig} (hi:ms[i]? =some m) (he:es[i]? =some e) (hS:S i=false)
  (hanc:∀a,as[i]? =some a→∀j∈a,S j=true) (hdown:∀j a,as[j]? =some a→S j=true→∀k∈a,S k=true):
  (∀x∈ot m,get (fE S 0 es t0) x=get (fE (fun q=>decide (q<i)) 0 es t0) x)∧
  (∀x∈e.T,get (fS S 0 es o0) x=get (fS (fun q=>decide (q<i)) 0 es o0) x)∧
  (∀x,get (fE (fa S i) 0 es t0) x=get (h_ (fE S 0 es t0) e.dst e.v) x)∧
  (∀x,get (fS (fa S i) 0 es o0) x=get (e.db++fS S 0 es o0) x):=by
 have one:∀j,j<ms.length→lu P F N xs ms as j=true:=by
  intro j hj;simp only[List.all_eq_true,List.mem_range] at hok;exact hok j hj
 have two:∀(j k:Nat) (mj:gN) (ek' ej:ig),j<k→ms[k]? =some mj→es[k]? =some ek'→es[j]? =some ej→(∃a,as[k]? =some a∧j∈a)∨(ek'.apart ej=true∧∃mj',ms[j]? =some mj'∧lB mj mj'=true):=by
  intro j k mk ek ej hjk hk hek hej;obtain⟨a,e',q1,q2,_,q4⟩:=hes k mk hk;rw[hek] at q2;cases q2;by_cases hc:a.contains j=true
  ·exact .inl ⟨a,q1,by simpa using hc⟩
  ·refine .inr ⟨(q4 j ej hjk hej).resolve_left hc, ?_⟩;have:=one k (List.getElem?_eq_some_iff.1 hk).1;unfold lu at this;rw[hk,q1] at this;split at this
   ·rename_i m1 a1 x1 e1 e2 e3;cases e1;cases e2;simp only[aj,List.all_eq_true,List.mem_range,Bool.or_eq_true] at this;have h2:=(this.2 j hjk).resolve_left hc;split at h2
    ·rename_i m' hm';exact⟨m',hm',h2⟩
    ·cases h2
   ·cases this
 have msOf:∀(j:Nat) (ej:ig),es[j]? =some ej→∃mj,ms[j]? =some mj∧ej.dst=mj.dst:=by
  intro j ej hj;have hlt:j<ms.length:=by rw[←hlen];exact(List.getElem?_eq_some_iff.1 hj).1
  obtain⟨a,e',_,q2,q3,_⟩:=hes j ms[j] (by simp[hlt]);rw[hj] at q2;cases q2;exact⟨ms[j],by simp[hlt],uk q3⟩
 have side:∀(j:Nat) (ej:ig),es[j]? =some ej→j≠i→(S j=decide (j<i))∨(∃mj,ms[j]? =some mj∧ej.dst=mj.dst∧((j<i∧e.apart ej=true∧lB m mj=true)∨(i<j∧ej.apart e=true∧lB mj m=true))):=by
  intro j ej hj hne;obtain⟨mj,hmj,hd⟩:=msOf j ej hj;rcases Nat.lt_or_gt_of_ne hne with h|h
  ·rcases two j i m e ej h hi he hj with⟨a,h1,h2⟩|⟨h1,mj',h2,h3⟩
   ·left;rw[hanc a h1 j h2];simp[h]
   ·rw[hmj] at h2;cases h2;exact .inr ⟨mj,hmj,hd,.inl ⟨h,h1,h3⟩⟩
  ·rcases two i j mj ej e h hmj hj he with⟨a,h1,h2⟩|⟨h1,mi',h2,h3⟩
   ·left;have:S j=false:=by
     cases hq:S j with
     |false=>rfl
     |true=>have:=hdown j a h1 hq i h2;rw[hS] at this;cases this
    rw[this];simp;omega
   ·rw[hi] at h2;cases h2;exact .inr ⟨mj,hmj,hd,.inr ⟨h,h1,h3⟩⟩
 have hed:e.dst=m.dst:=by
  obtain⟨m',h1,h2⟩:=msOf i e he;rw[hi] at h1;cases h1;exact h2
 refine⟨?_, ?_, ?_, ?_⟩
 ·intro x hx;refine j_ (fun j ej hj hd=> ?_) rfl;rw[Nat.zero_add];by_cases hne:j=i
  ·subst hne;rw[hS];simp
  ·rcases side j ej hj hne with h|⟨mj,_,hdj,⟨_,_,h⟩|⟨_,_,h⟩⟩
   ·exact h
   ·exfalso;rw[hdj] at hd;simp only[lB,hd,aj,Bool.not_eq_true'] at h;have:=h.2;simp at this;exact this hx
   ·exfalso;rw[hdj] at hd;simp only[lB,hd,aj,Bool.not_eq_true'] at h;have:=h.1.1;simp at this;exact this hx
 ·intro x hx;refine kh (fun j ej hj hd=> ?_) rfl;rw[Nat.zero_add];by_cases hne:j=i
  ·subst hne;rw[hS];simp
  ·rcases side j ej hj hne with h|⟨mj,_,hdj,⟨_,h,_⟩|⟨_,h,_⟩⟩
   ·exact h
   ·exfalso;simp only[ig.apart,aj,List.all_eq_true,Bool.not_eq_true'] at h;have:=h.2 x hd;simp at this;exact this hx
   ·exfalso;simp only[ig.apart,aj,List.all_eq_true,Bool.not_eq_true'] at h;have:=(h.1 x hd).1;simp at this;exact this hx
 ·intro x;refine sr (Nat.zero_le _) (by simpa using he) ?_ hS;intro j ej hj hSj hlt hd hdj;rw[Nat.zero_add] at hSj hlt;rcases side j ej hj (by omega) with h|⟨mj,_,hdj',⟨h0,_,h⟩|⟨_,_,h⟩⟩
  ·rw[hSj] at h;simp at h;omega
  ·omega
  ·rw[hdj'] at hdj;rw[hed] at hd;simp[lB,hdj,hd] at h
 ·intro x;refine sv (Nat.zero_le _) (by simpa using he) ?_ hS;intro j ej hj hSj hlt hd hdj;rw[Nat.zero_add] at hSj hlt;rcases side j ej hj (by omega) with h|⟨mj,_,hdj',⟨h0,_,h⟩|⟨_,h,_⟩⟩
  ·rw[hSj] at h;simp at h;omega
  ·omega
  ·simp only[ig.apart,aj,List.all_eq_true,Bool.not_eq_true'] at h;have:=(h.1 x hdj).2;simp at this;exact this hd
end
end Mx
namespace Mx
open Go
variable {P:Program} {F:Nat→FuncId} {Pr:Nat→Prop} {w0:World} {lb:Lb} {N:Nat}
section
variable {cf:bH} {xs:Array Oper} {ms:List gN} {as:List (List Nat)} {nb:Nat} {es:List ig} {t0:List (Nat×V)} {o0:List (Nat×Ob)}
theorem mq{α:Type}(ks:List Nat)(l:List (Nat×α)){x:Nat}{v:α}(h:get (keep ks l) x=some v):x∈ks:=by
 induction ks with
 |nil=>simp[keep,get] at h
 |cons k ks ih=>
  simp only[keep,List.filterMap_cons] at h;cases hk:get l k with
  |none=>simp only[hk,Option.map_none] at h;exact df _ (ih h)
  |some u=>
   simp only[hk,eX,get] at h;split at h
   ·rename_i e;subst e;exact dB ..
   ·exact df _ (ih h)
theorem u7{L:Array Bool}(hL:L.size=xs.size)(hsz:ms.length=xs.size)(hok:(List.range ms.length).all (lu P F N xs ms as)=true)(h:Region.ready .any xs L=[]):∀i,i<xs.size→L.getD i false=true:=by
 intro i
 induction i using Nat.strongRecOn with
 |_ i ih=>
  intro hi;cases hq:L.getD i false with
  |true=>rfl
  |false=>
   exfalso;have hone:lu P F N xs ms as i=true:=by
    simp only[List.all_eq_true,List.mem_range] at hok;exact hok i (by omega)
   unfold lu at hone;split at hone
   ·rename_i m a x e1 e2 e3;simp only[aj] at hone;have hbef:=hone.1.2;have:i∈Region.ready .any xs L:=by
     rw[mem_ready];refine⟨?_,x,e3,fun e he hb=> ?_⟩
     ·have hlt:i<L.size:=by omega
      simp[hlt] at hq ⊢;exact hq
     ·rw[Array.all_eq_true_iff_forall_mem] at hbef;have:=hbef e he;rw[hb] at this;simp at this;exact ih e.on this (by omega)
    rw[h] at this;simp at this
   ·cases hone
theorem xF(hcf:kU P F cf)(hsz:ms.length=xs.size)(hok:(List.range ms.length).all (lu P F N xs ms as)=true)
  (hes:∀j m,ms[j]? =some m→∃a e,as[j]? =some a∧es[j]? =some e∧gM cf nb j m (fE (fun q=>decide (q<j)) 0 es t0) (fS (fun q=>decide (q<j)) 0 es o0)=some e∧(∀j' e',j'<j→es[j']? =some e'→a.contains j'=true∨e.apart e'=true))
  (hlen:es.length=ms.length) {Q:Exit→Act→World→Prop}
  (hq:∀E' a' w',Rel F Pr w0 lb N E' (fun k=>k<nb+16*ms.length) (fE (fun _=>true) 0 es t0) (fS (fun _=>true) 0 es o0) a' w'→Q .normal a' w'):
  ∀(fuel:Nat) (L:Array Bool) {E:Nat→Option Loc} {a:Act} {w:World},L.size=xs.size→((List.range xs.size).filter fun i=> !L.getD i false).length≤fuel→
   (∀i b,as[i]? =some b→L.getD i false=true→∀j∈b,L.getD j false=true)→
   Rel F Pr w0 lb N E (NS nb fun j=>L.getD j false) (fE (fun j=>L.getD j false) 0 es t0) (fS (fun j=>L.getD j false) 0 es o0) a w→wpAny P .any xs Q fuel L a w:=by
 have done:∀(L:Array Bool) {E:Nat→Option Loc} {a:Act} {w:World},L.size=xs.size→(∀i,i<xs.size→L.getD i false=true)→
   Rel F Pr w0 lb N E (NS nb fun j=>L.getD j false) (fE (fun j=>L.getD j false) 0 es t0) (fS (fun j=>L.getD j false) 0 es o0) a w→Q .normal a w:=by
  intro L E a w hL hall R;have e1:fE (fun j=>L.getD j false) 0 es t0=fE (fun _=>true) 0 es t0:=sq fun j hj=>by rw[Nat.zero_add];exact hall j (by omega)
  have e2:fS (fun j=>L.getD j false) 0 es o0=fS (fun _=>true) 0 es o0:=su fun j hj=>by rw[Nat.zero_add];exact hall j (by omega)
  rw[e1,e2] at R;refine hq E a w (R.wX ?_);rintro k (h|⟨i,h1,h2,h3⟩)
  ·omega
  ·have:i<L.size:=by
    rcases Nat.lt_or_ge i L.size with q|q
    ·exact q
    ·simp[Array.getElem?_eq_none q] at h1
   omega
 intro fuel
 induction fuel with
 |zero=>
  intro L E a w hL hcount hdown R;have hall:∀i,i<xs.size→L.getD i false=true:=by
   intro i hi;cases hx:L.getD i false with
   |true=>rfl
   |false=>
    exfalso;have:i∈(List.range xs.size).filter fun i=> !L.getD i false:=by
     rw[fB,List.mem_range];exact⟨hi,by rw[hx];rfl⟩
    have hlen0:=List.length_pos_of_mem this;omega
  refine⟨?_,done L hL hall R⟩;cases hr:Region.ready .any xs L with
  |nil=>rfl
  |cons i rest=>
   exfalso;have hi:i∈Region.ready .any xs L:=by rw[hr];exact dB ..
   rw[mem_ready] at hi;obtain⟨h0,o,ho,_⟩:=hi;have hlt:i<xs.size:=(Array.getElem?_eq_some_iff.1 ho).1;have h1:=hall i hlt;have hlt2:i<L.size:=by omega
   simp[hlt2] at h0 h1;rw[h0] at h1;cases h1
 |succ fuel ih=>
  intro L E a w hL hcount hdown R;refine⟨fun hr=>done L hL (u7 hL hsz hok hr) R, ?_⟩;intro i hi;rw[mem_ready] at hi;obtain⟨h0,x,hx,hedges⟩:=hi;have hlt:i<xs.size:=(Array.getElem?_eq_some_iff.1 hx).1;have hlt2:i<L.size:=by omega
  have hSi:L.getD i false=false:=by simp[hlt2] at h0 ⊢;exact h0
  have hone:lu P F N xs ms as i=true:=by
   simp only[List.all_eq_true,List.mem_range] at hok;exact hok i (by omega)
  unfold lu at hone;split at hone;rotate_left
  ·cases hone
  rename_i m b x' hm hb hx';rw[hx] at hx';cases hx';simp only[aj] at hone;obtain⟨⟨⟨⟨hmop,hlt0⟩,hjust⟩,hbef⟩,_⟩:=hone;obtain⟨b',e,hb',he,hent,_⟩:=hes i m hm;have hanc:∀a,as[i]? =some a→∀j∈a,L.getD j false=true:=by
   intro a ha j hj;rw[hb] at ha;cases ha;simp only[List.all_eq_true] at hjust;have:=hjust j hj;rw[←Array.any_toList,List.any_eq_true] at this;obtain⟨ed,hed,hed2⟩:=this;have hed:=Array.mem_def.2 hed;simp only[aj,Bool.or_eq_true,beq_iff_eq] at hed2;have hon:=hedges ed hed hed2.1;rcases hed2.2 with q|q
   ·rw[←q];exact hon
   ·split at q
    ·rename_i c hc;exact hdown ed.on c hc hon j (by simpa using q)
    ·cases q
  obtain⟨k1,k2,k3,k4⟩:=vz hok hes hlen hm he hSi hanc (fun j a ha hj k hk=>hdown j a ha hj k hk);have hS':(fun j=>(L.setIfInBounds i true).getD j false)=fa (fun j=>L.getD j false) i:=by
   funext j;simp only[fa];by_cases hji:j=i
   ·subst hji;simp[hlt2]
   ·rw[getD_set_ne false (fun q=>hji q.symm)];have:(j==i)=false:=by simp[hji]
    rw[this,Bool.or_false]
  simp only[t_,aj,beq_iff_eq] at hmop;obtain⟨⟨⟨hdst,hN⟩,hg⟩,hact⟩:=hmop;have hed:=uk hent;have hN':∀d,e.dst=some d→d<N:=by
   intro d hd;rw[hed,hdst] at hd;rw[hd] at hN;simpa using hN
  have next:∀E' a' w',Rel F Pr w0 lb N E' (NS nb (fa (fun j=>L.getD j false) i)) (h_ (fE (fun j=>L.getD j false) 0 es t0) e.dst e.v) (e.db++fS (fun j=>L.getD j false) 0 es o0) a' w'→wpAny P .any xs Q fuel (L.setIfInBounds i true) a' w':=by
   intro E' a' w' R';refine ih (L.setIfInBounds i true) (by simpa using hL) ?_ ?_ ?_ (E:=E')
   ·have hsub:((List.range xs.size).filter fun j=> !(L.setIfInBounds i true).getD j false).length<((List.range xs.size).filter fun j=> !L.getD j false).length:=by
     have e1:((List.range xs.size).filter fun j=> !(L.setIfInBounds i true).getD j false)=((List.range xs.size).filter fun j=> !L.getD j false).filter fun j=> !(j==i):=by
      rw[List.filter_filter];congr 1;funext j;have:=congrFun hS' j;rw[this];simp[fa,Bool.and_comm]
     rw[e1];have hmem:i∈(List.range xs.size).filter fun j=> !L.getD j false:=by
      rw[fB,List.mem_range];exact⟨hlt,by rw[hSi];rfl⟩
     exact List.length_filter_lt_length_iff_exists.2 ⟨i,hmem,by simp⟩
    omega
   ·intro j c hc hj k hk;have hj':fa (fun j=>L.getD j false) i j=true:=by rw[←hS'];exact hj
    have:fa (fun j=>L.getD j false) i k=true:=by
     simp only[fa,Bool.or_eq_true,beq_iff_eq] at hj' ⊢;rcases hj' with q|q
     ·exact .inl (hdown j c hc q k hk)
     ·subst q;exact .inl (hanc c hc k hk)
    rw[←hS'] at this;exact this
   ·rw[hS'];exact R'.BT k3 k4
  show wpOp P xs Q i (wpAny P .any xs Q fuel (L.setIfInBounds i true)) a w;unfold wpOp;rw[hx];simp only;have hwant:wanted (fE (fun j=>L.getD j false) 0 es t0) m.guard=wanted (fE (fun q=>decide (q<i)) 0 es t0) m.guard:=by
   cases hgm:m.guard with
   |none=>rfl
   |some gb=>
    obtain⟨g,bb⟩:=gb;simp only[wanted];rw[k1 g (by simp[ot,xh,hgm])]
  unfold gM at hent;split at hent
  ·rename_i hw;rw[if_pos (kW R hg (by rw[hwant];exact hw))];rw[al] at hent;obtain⟨r,hr,rfl⟩:=hent;have hr2:act cf (nb+16*i) (m.dst.getD 0) (fE (fun j=>L.getD j false) 0 es t0) (fS (fun j=>L.getD j false) 0 es o0) m.op=some (r.1,r.2):=by
    rw[BY (t:=fE (fun q=>decide (q<i)) 0 es t0) (fun k hk=>k1 k (by simp[ot,hk]))];refine zN (fun id ob hg=> ?_) hr;rw[k2 id (mq _ _ hg)];exact oM _ _ hg
   refine .inl (xX R (Ar hSi) hcf hact hr2 ?_);intro E' val w' R' hv;have z:=next E' _ w' (R'.put (dst:=m.dst) (by simpa using hN') hv)
   rw[hdst] at z;exact z
  ·rename_i hw;rw[if_neg (by rw[kW R hg (by rw[hwant];exact hw)];simp)];cases hent;have R2:=(R.wX (Ar hSi).f_).put (dst:=m.dst) (v:= .undef) (val:=undef) (by simpa using hN') (.undef _ (by intro b h;cases h));have z:=next E _ w R2
   rw[hdst] at z;exact z
  ·cases hent
end
end Mx
namespace Mx
open Go
variable {P:Program} {F:Nat→FuncId} {Pr:Nat→Prop} {w0:World} {lb:Lb} {N:Nat} {E:Nat→Option Loc} {n:Nat→Prop} {t:List (Nat×V)} {o:List (Nat×Ob)} {a:Act} {w:World}
def mP(P:Program)(F:Nat→FuncId)(N:Nat)(ops:Array Oper):List gN→List Oper→Bool
 |[],[]=>true
 |m::ms,x::xs=>t_ P F N ops m x&&mP P F N ops ms xs
 |_,_=>false
theorem zt(nb i:Nat):Fr (fun k=>k<nb+16*i) (nb+16*i) (fun k=>k<nb+16*(i+1)):=
 ⟨fun k h1 h2 h3=>by omega,fun k h=>by omega,fun k h1 h2=>by omega⟩
theorem oe{cf:bH}(hcf:kU P F cf){ops:Array Oper}{Q:Exit→Act→World→Prop}{nb:Nat}:∀{i:Nat} {ms:List gN} {xs:List Oper} {E:Nat→Option Loc} {t:List (Nat×V)} {o:List (Nat×Ob)} {a:Act} {w:World} {t':List (Nat×V)} {o':List (Nat×Ob)},
  Rel F Pr w0 lb N E (fun k=>k<nb+16*i) t o a w→mP P F N ops ms xs=true→steps cf nb i ms t o=some (t',o')→
  (∀E' a' w',Rel F Pr w0 lb N E' (fun k=>k<nb+16*(i+ms.length)) t' o' a' w'→Q .normal a' w')→wpList P ops Q xs a w
 |i,[],[],E,t,o,a,w,t',o',R,_,h,hq=>by
  simp only[steps,aA,aH] at h;obtain⟨rfl,rfl⟩:=h;exact hq E a w R
 |i,m::ms,x::xs,E,t,o,a,w,t',o',R,hok,h,hq=>by
  simp only[mP,t_,aj,beq_iff_eq] at hok;obtain⟨⟨⟨⟨hdst,hN⟩,hg⟩,hact⟩,hrest⟩:=hok;have hN':∀d,x.dst=some d→d<N:=by
   intro d hd;rw[hd] at hN;simpa using hN
  simp only[steps] at h;split at h
  ·rename_i t1 o1 hs;have hq':∀E' a' w',Rel F Pr w0 lb N E' (fun k=>k<nb+16*(i+1+ms.length)) t' o' a' w'→Q .normal a' w':=by
    intro E' a' w' R';exact hq E' a' w' (by rw[ae,show i+(ms.length+1)=i+1+ms.length from by omega];exact R')
   unfold wpList;unfold step at hs;split at hs
   ·rename_i hw;rw[if_pos (kW R hg hw)];simp only[al,aH] at hs;obtain⟨r,hr,rfl,rfl⟩:=hs;refine .inl (xX R (zt nb i) hcf hact hr ?_);intro E' val w' R' hv;refine oe hcf (i:=i+1) (R'.put (dst:=m.dst) (by rw[hdst];exact hN') hv) hrest h hq'|>fun z=> ?_
    rw[hdst] at z;exact z
   ·rename_i hw;rw[if_neg (by rw[kW R hg hw];simp)];simp only[aA,aH] at hs;obtain⟨rfl,rfl⟩:=hs;have R2:=(R.same rfl rfl rfl rfl (n':=fun k=>k<nb+16*(i+1)) (fun k h=>by omega)).put (dst:=m.dst) (v:= .undef) (val:=undef) (by rw[hdst];exact hN') (.undef _ (by intro b h;cases h));have z:=oe hcf (i:=i+1) R2 hrest h hq';rw[hdst] at z;exact z
   ·cases hs
  ·cases h
 |_,[],_::_,_,_,_,_,_,_,_,_,hok,_,_=>by simp[mP] at hok
 |_,_::_,[],_,_,_,_,_,_,_,_,hok,_,_=>by simp[mP] at hok
def lV(P:Program)(F:Nat→FuncId)(N:Nat):C→Code→Bool
 | .skip,.skip=>true
 | .ay ops _ _,.region _ xs false=>mP P F N xs ops xs.toList
 | .eD ops anc _ _,.region _ xs true=>wR P F N xs ops anc
 | .seq a b,.seq c d=>lV P F N a c&&lV P F N b d
 | .cond x a b,.cond y c d=>fU F x y&&lV P F N a c&&lV P F N b d
 | .block id a,.block id' c=>id==id'&&lV P F N a c
 | .loop a,.loop c=>lV P F N a c
 | .exit id,.exit id'=>id==id'
 | .ret,.ret=>true
 | .shut _ a,c=>lV P F N a c
 |_,_=>false
def xp:Out→Exit
 | .normal=> .normal
 | .exit id=> .exit id
 | .ret=> .ret
theorem AY{cf:bH}(hcf:kU P F cf)(k:Nat):∀(c:C) (c':Code) (_hs:lV P F N c c'=true) {Q:Exit→Act→World→Prop} {s s':St} {out:Out} {E:Nat→Option Loc} {a:Act} {w:World},
  Rel F Pr w0 lb N E (fun k=>k<s.n) s.t s.o a w→b9 cf k c s=some (out,s')→
  (∀E' a' w',Rel F Pr w0 lb N E' (fun k=>k<s'.n) s'.t s'.o a' w'→Q (xp out) a' w')→c'.wp P Q a w:=by
 intro c
 induction c with
 |skip=>
  intro c' hs Q s s' out E a w R h hq;cases c'<;>first|(simp[lV] at hs;done)|skip
  simp only[b9,aA,aH] at h;obtain⟨rfl,rfl⟩:=h;exact wp_skip (hq E a w R)
 |ay ops kt ko=>
  intro c' hs Q s s' out E a w R h hq;cases c' with
  |region id xs draw=>
   cases draw with
   |true=>simp[lV] at hs
   |false=>
    simp only[lV] at hs;simp only[b9,al,aH] at h;obtain⟨r,hr,rfl,rfl⟩:=h;refine wp_region_list (oe (i:=0) hcf R hs hr ?_);intro E' a' w' R';exact hq E' a' w' (by simpa using R'.keep kt ko)
  |_=>simp[lV] at hs
 |eD ops anc kt ko=>
  intro c' hs Q s s' out E a w R h hq;cases c' with
  |region id xs draw=>
   cases draw with
   |false=>simp[lV] at hs
   |true=>
    simp only[lV,wR,aj,beq_iff_eq] at hs;obtain⟨⟨hm,hsz⟩,hok⟩:=hs;simp only[b9,al,aH] at h;obtain⟨r,hr,rfl,rfl⟩:=h;obtain⟨es,hlen,rfl,hes⟩:=nc hr;have z:∀(es:List ig) (i:Nat) (t:List (Nat×V)),fE (fun j=>(Array.replicate xs.size false).getD j false) i es t=t:=by
     intro es
     induction es with
     |nil=>intro i t;rfl
     |cons e es ih=>intro i t;simp only[fE];rw[if_neg (by simp[Array.getElem?_replicate];split<;>simp)];exact ih _ _
    have z2:∀(es:List ig) (i:Nat) (t:List (Nat×Ob)),fS (fun j=>(Array.replicate xs.size false).getD j false) i es t=t:=by
     intro es
     induction es with
     |nil=>intro i t;rfl
     |cons e es ih=>intro i t;simp only[fS];rw[if_neg (by simp[Array.getElem?_replicate];split<;>simp)];exact ih _ _
    refine wp_region_any hm (xF (E:=E) hcf hsz hok (fun j m hj=> ?_) hlen (fun E' a' w' R'=>hq E' a' w' (R'.keep kt ko)) xs.size _ (by simp) (Nat.le_trans (ea _ _) (by simp)) ?_ ?_)
    ·obtain⟨a',e,q1,q2,q3,_,q5⟩:=hes j m hj;refine⟨a',e,q1,q2, ?_,fun j' e' h1 h2=> ?_⟩
     ·simpa only[Nat.zero_add] using q3
     ·have:=q5 j' e' h1 h2;simpa only[Nat.zero_add] using this
    ·intro i b _ hi;exfalso;revert hi;simp[Array.getElem?_replicate];split<;>simp
    ·rw[z,z2];exact Rel.same (w':={w with drawn:=w.drawn+1}) (n':=NS s.n fun j=>(Array.replicate xs.size false).getD j false) R rfl rfl rfl rfl (fun k hk=>Or.inl hk)
  |_=>simp[lV] at hs
 |seq x y ihx ihy=>
  intro c' hs Q s s' out E a w R h hq;cases c'<;>first|(simp[lV] at hs;done)|skip
  simp only[lV,aj] at hs;simp only[b9] at h;split at h
  ·rename_i s1 h1;exact wp_seq (ihx _ hs.1 R h1 fun E' a' w' R'=>ihy _ hs.2 R' h hq)
  ·rename_i hne;refine wp_seq (ihx _ hs.1 R h fun E' a' w' R'=> ?_);cases out with
   |normal=>exact(hne _ h).elim
   |exit id=>exact hq E' a' w' R'
   |ret=>exact hq E' a' w' R'
 |cond x y z ihy ihz=>
  intro c' hs Q s s' out E a w R h hq;cases c'<;>first|(simp[lV] at hs;done)|skip
  simp only[lV,aj] at hs;simp only[b9] at h;split at h
  ·rename_i hb;exact wp_cond (iD R hs.1.1 hb) (ihy _ hs.1.2 R h hq)
  ·rename_i hb;exact wp_cond (iD R hs.1.1 hb) (ihz _ hs.2 R h hq)
  ·cases h
 |block id x ih=>
  intro c' hs Q s s' out E a w R h hq;cases c'<;>first|(simp[lV] at hs;done)|skip
  simp only[lV,aj,beq_iff_eq] at hs;obtain⟨rfl,hs⟩:=hs;simp only[b9] at h;split at h
  ·rename_i id' s1 h1;simp only[aA] at h;refine wp_block (ih _ hs R h1 fun E' a' w' R'=> ?_);simp only[xp,Exit.inBlock];split at h
   ·rename_i e;simp only[aH] at h;obtain⟨rfl,rfl⟩:=h;rw[if_pos e];exact hq E' a' w' R'
   ·rename_i e;simp only[aH] at h;obtain⟨rfl,rfl⟩:=h;rw[if_neg e];exact hq E' a' w' R'
  ·rename_i hne;refine wp_block (ih _ hs R h fun E' a' w' R'=> ?_);cases out with
   |normal=>exact hq E' a' w' R'
   |exit id'=>exact(hne _ _ h).elim
   |ret=>exact hq E' a' w' R'
 |loop x ih=>
  intro c' hs Q s s' out E a w R h hq;cases c'<;>first|(simp[lV] at hs;done)|skip
  rename_i body;simp only[lV] at hs;simp only[b9] at h;refine wp_loop_rounds k ?_;have key:∀(m:Nat) {s:St} {E:Nat→Option Loc} {a:Act} {w:World},Rel F Pr w0 lb N E (fun k=>k<s.n) s.t s.o a w→dP (b9 cf k x) m s=some (out,s')→Code.rounds P body Q m a w:=by
   intro m
   induction m with
   |zero=>intro s E a w R h;simp[dP] at h
   |succ m ihm=>
    intro s E a w R h;rw[rounds_succ];simp only[dP] at h;split at h
    ·rename_i s1 h1;exact ih _ hs R h1 fun E' a' w' R'=>ihm R' h
    ·rename_i hne;refine ih _ hs R h fun E' a' w' R'=> ?_
     cases out with
     |normal=>exact(hne _ h).elim
     |exit id=>exact hq E' a' w' R'
     |ret=>exact hq E' a' w' R'
  exact key k R h
 |exit id=>
  intro c' hs Q s s' out E a w R h hq;cases c'<;>first|(simp[lV] at hs;done)|skip
  simp only[lV,beq_iff_eq] at hs;subst hs;simp only[b9,aA,aH] at h;obtain⟨rfl,rfl⟩:=h;exact wp_exit (hq E a w R)
 |ret=>
  intro c' hs Q s s' out E a w R h hq;cases c'<;>first|(simp[lV] at hs;done)|skip
  simp only[b9,aA,aH] at h;obtain⟨rfl,rfl⟩:=h;exact wp_ret (hq E a w R)
 |shut ids x ih=>
  intro c' hs Q s s' out E a w R h hq;have hs':lV P F N x c'=true:=by rw[lV] at hs;exact hs
  simp only[b9] at h;exact ih c' hs' (R.shut ids) h hq
def tZ(P:Program):List R→List ResultVar→Bool
 |[],[]=>true
 | .tmp x::rs,.tmp y::qs=>x==y&&tZ P rs qs
 | .cell x agg k::rs,.cell y ty::qs=>x==y&&(gI P ty==some agg)&&(eR P ty==some k)&&tZ P rs qs
 |_,_=>false
theorem nM{ty:TypeId}{ad:Addr}{cs:List Value}(ha:gI P ty=some true)(hs:eR P ty=some cs.length)
  (h:∀(q:Nat) (v:Value),cs[q]? =some v→w.cell? (ad.add q)=some v):(loadVar ty ad).run P w= .ok (.agg cs.toArray) w:=by
 simp only[loadVar,Sem.run_bind,Result.andThen_ok,fJ ha,if_true,dy hs];rw[run_loadCells_list w ad cs h];simp
theorem nL{ty:TypeId}{ad:Addr}{v:Value}(ha:gI P ty=some false)(h:w.cell? ad=some v):(loadVar ty ad).run P w= .ok v w:=by
 simp[loadVar,fJ ha,h]
def iC(tmps:Array Value):ResultVar→Sem Value
 | .tmp t=>pure (tmps.getD t undef)
 | .cell a t=>do loadVar t (←asAddr (tmps.getD a undef))
theorem sY(R:Rel F Pr w0 lb N E n t o a w){r:Mx.R}{q:ResultVar}(hok:tZ P [r] [q]=true){v:V}(h:wO t o r=some v):∃x,(iC a.tmps q).run P w= .ok x w∧eK (cx F Pr E o w) v x:=by
 cases r with
 |tmp d=>
  cases q with
  |tmp d'=>
   simp only[tZ,Bool.and_true,beq_iff_eq] at hok;subst hok;exact⟨_,rfl,R.tmps d v h⟩
  |cell=>simp[tZ] at hok
 |cell d agg k=>
  cases q with
  |tmp=>simp[tZ] at hok
  |cell d' ty=>
   simp only[tZ,Bool.and_true,aj,beq_iff_eq] at hok;obtain⟨⟨rfl,ha⟩,hs⟩:=hok;simp only[wO] at h;split at h
   ·rename_i x hx;split at h
    ·rename_i r j hp;obtain⟨ad,hv,hcells⟩:=pP R (R.tmps d _ hx).o3 hp;have hrun:∀val,(loadVar ty ad).run P w= .ok val w→(iC a.tmps (.cell d ty)).run P w= .ok val w:=by
      intro val hl;simp[iC,hv,asAddr,hl]
     split at h
     ·rename_i hagg;subst hagg;split at h
      ·rename_i hk;cases h;obtain⟨cs,hl,hrep,hc⟩:=pO (X:=cx F Pr E o w) hcells hk;exact⟨_,hrun _ (nM ha (by rw[hl];exact hs) hc),.Bc hrep⟩
      ·cases h
     ·rename_i hagg;have hagg':agg=false:=by cases agg<;>simp_all
      subst hagg';rw[al] at h;obtain⟨c,hc,rfl⟩:=h;obtain⟨u,hu,hr⟩:=hcells 0 c (by simpa using hc);rw[add_zero] at hu;exact⟨u,hrun _ (nL ha hu),.c _ _ hr⟩
    ·cases h
   ·cases h
theorem nI(R:Rel F Pr w0 lb N E n t o a w):∀{rs:List Mx.R} {qs:List ResultVar} {vs:List V},tZ P rs qs=true→dH (wO t o) rs=some vs→
  ∃xs:List Value,(qs.mapM (iC a.tmps)).run P w= .ok xs w∧vs.length=xs.length∧∀(i:Nat) (v:V) (x:Value),vs[i]? =some v→xs[i]? =some x→eK (cx F Pr E o w) v x
 |[],[],vs,_,h=>by simp[dH] at h;subst h;exact⟨[],rfl,rfl,fun i v x h=>by simp at h⟩
 |r::rs,q::qs,vs,hok,h=>by
  simp only[dH] at h;split at h
  ·rename_i v vs' h1 h2;cases h;have hok2:tZ P [r] [q]=true∧tZ P rs qs=true:=by
    cases r<;>cases q<;>simp_all[tZ]
   obtain⟨x,hx,hr⟩:=sY R hok2.1 h1;obtain⟨xs,hxs,hl,hrs⟩:=nI R hok2.2 h2;refine⟨x::xs,by simp[List.mapM_cons,hx,hxs],by simp[hl],fun i u z hu hz=> ?_⟩;cases i with
   |zero=>simp at hu hz;subst hu hz;exact hr
   |succ i=>exact hrs i u z (by simpa using hu) (by simpa using hz)
  ·cases h
 |[],_::_,_,hok,_=>by simp[tZ] at hok
 |r::_,[],_,hok,_=>by cases r<;>simp[tZ] at hok
theorem rF{fn:Func}{tmps:Array Value}{xs:List Value}(h:(fn.results.toList.mapM (iC tmps)).run P w= .ok xs w):
  (results fn tmps).run P w= .ok (if h:xs.length=1 then xs[0] else .tuple xs.toArray) w:=by
 have hr:results fn tmps=(do
  let vs ←fn.results.mapM (iC tmps)
  pure (if h:vs.size=1 then vs[0] else .tuple vs)):=rfl
 rw[hr,Array.mapM_eq_mapM_toList];simp[h]
theorem jX{o:List (Nat×Ob)}:∀{lent after:List (Nat×Ob)},k9 o lent=some after→∀p ob,get lent p=some ob→∃b b',get o p=some b∧b.bA=p∧b.w=true∧get after p=some b'∧
  (b'=b∧b.bx=false∨∃rows,dH (fun r=>dH (cl o) r) b.rows=some rows∧b'={b with rows:=rows})
 |[],_,_,p,ob,hg=>by simp[get] at hg
 |(p',ob')::lent,after,h,p,ob,hg=>by
  simp only[k9] at h;split at h
  ·rename_i b l' hb hl;split at h
   ·rename_i hc;by_cases e:p=p'
    ·subst e;split at h
     ·rw[al] at h;obtain⟨rows,hm,rfl⟩:=h;exact⟨b,_,hb,hc.1,hc.2,ly _ _ _,.inr ⟨rows,hm,rfl⟩⟩
     ·rename_i hbx;cases h;exact⟨b,b,hb,hc.1,hc.2,ly _ _ _,.inl ⟨rfl,by simpa using hbx⟩⟩
    ·rw[kM e] at hg;obtain⟨b1,b2,g1,g2,g3,g4,g5⟩:=jX hl p ob hg;split at h
     ·rw[al] at h;obtain⟨rows,hm,rfl⟩:=h;exact⟨b1,b2,g1,g2,g3,by rw[kM e];exact g4,g5⟩
     ·cases h;exact⟨b1,b2,g1,g2,g3,by rw[kM e];exact g4,g5⟩
   ·cases h
  ·cases h
def iY(E:Nat→Option Loc)(o:List (Nat×Ob))(np:Nat)(raw:List T)(q:Nat):Option Loc:=
 match raw[q]? with
 |some (.row id _ _ _)=>if gS np id then none else(match get o id with|some b=>if b.w then E b.bA else none|none=>none)
 |some (.ptr id _ _ _)=>if gS np id then none else(match get o id with|some b=>if b.w then E b.bA else none|none=>none)
 |some (.bp _)=>some .nil
 |_=>none
def tY(np:Nat)(o:List (Nat×Ob)):T→List Nat
 | .row id _ _ _=>if gS np id then [] else(match get o id with|some b=>if b.w then [id] else []|none=>[])
 | .ptr id _ _ _=>if gS np id then [] else(match get o id with|some b=>if b.w then [id] else []|none=>[])
 |_=>[]
theorem kZ{np q b cap sz:Nat}{raw:List T}(h:iY E o np raw q=some (.fY b cap sz)):∃x id ob,raw[q]? =some x∧tY np o x=[id]∧gS np id=false∧get o id=some ob∧ob.w=true∧E ob.bA=some (.fY b cap sz):=by
 unfold iY at h;split at h
 ·rename_i id bA off len hq;split at h
  ·cases h
  ·rename_i hnp;split at h
   ·rename_i ob hg;split at h
    ·rename_i hw;exact⟨_,id,ob,hq,by simp[tY,hnp,hg,hw],by simpa using hnp,hg,hw,h⟩
    ·cases h
   ·cases h
 ·rename_i id bA off len hq;split at h
  ·cases h
  ·rename_i hnp;split at h
   ·rename_i ob hg;split at h
    ·rename_i hw;exact⟨_,id,ob,hq,by simp[tY,hnp,hg,hw],by simpa using hnp,hg,hw,h⟩
    ·cases h
   ·cases h
 ·cases h
 ·cases h
theorem ny{α:Type}{g:α→List Nat}:∀{l:List α},(l.flatMap g).Nodup→∀{i j:Nat} {x y:α} {k:Nat},l[i]? =some x→l[j]? =some y→k∈g x→k∈g y→i=j
 |[],_,i,_,_,_,_,h,_,_,_=>by simp at h
 |z::l,hn,i,j,x,y,k,hi,hj,hx,hy=>by
  simp only[ct,List.nodup_append] at hn;obtain⟨h1,h2,h3⟩:=hn;cases i with
  |zero=>
   cases j with
   |zero=>rfl
   |succ j=>
    simp at hi hj;subst hi;exact(h3 k hx k (List.mem_flatMap.2 ⟨y,cT hj,hy⟩) rfl).elim
  |succ i=>
   cases j with
   |zero=>
    simp at hi hj;subst hj;exact(h3 k hy k (List.mem_flatMap.2 ⟨x,cT hi,hx⟩) rfl).elim
   |succ j=>rw[ny h2 (i:=i) (j:=j) (by simpa using hi) (by simpa using hj) hx hy]
section fin
variable {X:Cx} {np:Nat} {raw:List T} {lent:List (Nat×Ob)} (R:Rel F Pr w0 lb N E n t o a w) (K:fT (cx F Pr E o w) X) (hw:X.w=w)
 (hl:∀p ob,get lent p=some ob→∃b,get o p=some b∧b.bA=p)
include R K hw hl
theorem ui{q:Nat}{x y:T}{v:Value}(hq:raw[q]? =some x)(h:mu np o x=some y)(hr:eo (cx F Pr E o w) x v):mE X (iY E o np raw) lent q y v:=by
 cases x with
 |int k m=>simp[mu] at h;subst h;cases hr;exact .int _ _
 |bool b=>simp[mu] at h;subst h;cases hr;exact .bool _
 |str s=>simp[mu] at h;subst h;cases hr;exact .str _
 |bp sz=>
  simp[mu] at h;subst h;cases hr;exact .own sz [] .nil (by simp[iY,hq]) ⟨rfl,rfl⟩
 |sl own sz rows=>
  simp[mu] at h;subst h;cases hr with
  |sl _ _ _ A c vs h1 h2 h3 h4 h5=>exact .sh _ _ _ ((eo.sl (X:=cx F Pr E o w) false _ _ A c vs h1 h2 h3 h4 h5).mono K)
 |row id bA off len=>
  simp only[mu] at h;split at h
  ·rename_i b hg;split at h
   ·rename_i hc;obtain⟨hver,hbx,hfit⟩:=hc;split at h
    ·rename_i hlt;cases h;refine .row id bA off len v fun ob hob=> ?_
     obtain⟨b',h1,h2⟩:=hl id ob hob;rw[hg] at h1;cases h1;have:bA=id:=by rw[←hver,h2]
     subst this;exact hr.mono K
    ·rename_i hge;split at h
     ·rename_i hc2;cases h;obtain⟨_,l,hloc,hrl⟩:=R.iJ id b hg;have ho:iY E o np raw q=some l:=by
       simp only[iY,hq,if_neg hge,hg,hc2.1,if_true];exact hloc
      have hoff:off=0:=by simpa using hc2.2
      subst hoff;have hlen:(b.rows.take len).length=len:=by simp;omega
      cases hr with
      |row _ _ _ _ cap sz bk hE' hl' ho'=>
       rw[hver] at hloc;rw[show (cx F Pr E o w).E bA=E bA from rfl,hloc] at hE';cases hE';obtain⟨e,hl0,hwid,hcl,cs,e1,fr,m1,m2,m3,m4⟩:=hrl;subst e;have:=mE.own (X:=X) (lent:=lent) (q:=q) b.sz (b.rows.take len) (.fY bk cap b.sz) ho
        ⟨rfl,by simp only[hlen];omega,nZ hwid,fun _ i j r t hi ht=>hcl hbx i j r t (by rw[cp] at hi;split at hi;exact hi;cases hi) ht,cs,e1,fr,by rw[hw];exact m1,m2,m3,fun i j r t hi ht=>by
         rw[cp] at hi;split at hi
         ·obtain⟨v,q1,q2⟩:=m4 i j r t hi ht;exact⟨v,q1,q2.mono K⟩
         ·cases hi⟩
       simp only[hlen,zh] at this;simpa [add_zero] using this
      |iq _ _ hE'=>
       rw[hver] at hloc;rw[show (cx F Pr E o w).E bA=E bA from rfl,hloc] at hE';cases hE';have:=mE.own (X:=X) (lent:=lent) (q:=q) b.sz (b.rows.take 0) .nil ho ⟨by simp,rfl⟩;simpa [zh] using this
     ·split at h
      ·cases h
      ·rename_i hnw;cases h;exact .sh _ _ _ ((tX R hg hver hfit (by simpa using hnw) hbx hr).mono K)
   ·cases h
  ·cases h
 |ptr id bA i j=>
  simp only[mu] at h;split at h
  ·rename_i b hg;split at h
   ·rename_i hc;obtain⟨hver,hbw,hbx,rfl,rfl,hlt⟩:=hc;split at h
    ·rename_i r hrows;rw[al] at h;obtain⟨r',hm,rfl⟩:=h;obtain⟨_,l,hloc,hrl⟩:=R.iJ id b hg;have ho:iY E o np raw q=some l:=by
      simp only[iY,hq,hlt,az,if_false,hg,hbw,if_true];exact hloc
     cases hr with
     |ptr _ _ _ _ bk cap sz hE'=>
      rw[hver] at hloc;rw[show (cx F Pr E o w).E bA=E bA from rfl,hloc] at hE';cases hE';obtain⟨e,hl0,hwid,hcl,cs,e1,fr,m1,m2,m3,m4⟩:=hrl;subst e;have hr0:b.rows[0]? =some r:=by rw[hrows];rfl
      have hlen:r'.length=b.sz:=by rw[eI hm];exact hwid 0 r hr0
      have key:∀(j:Nat) (t:T),r'[j]? =some t→∃v,cs[0*b.sz+j]? =some v∧eo (cx F Pr E o w) t v∧cO t:=by
       intro j t ht;obtain⟨t0,k3,k4⟩:=fx hm ht;obtain⟨v,q1,q2⟩:=m4 0 j r t0 hr0 k3;exact⟨v,q1,o2 R k4 q2,lh R k4 q2⟩
      have:=mE.box (X:=X) (own:=iY E o np raw) (lent:=lent) (q:=q) r' bk cap (by rw[hlen];exact ho)
       ⟨rfl,by rw[hrows] at hl0;simpa using hl0,fun i r0 hi=>by cases i with|zero=>simp at hi;subst hi;rfl|succ i=>simp at hi,
        fun hb=>by simp at hb,cs,e1,fr,by rw[hw];exact m1,by simp only[hlen];exact m2,m3,fun i j r0 t hi ht=>by
         cases i with
         |zero=>simp at hi;subst hi;obtain⟨v,q1,q2,_⟩:=key j t ht;exact⟨v,by simpa using q1,q2.mono K⟩
         |succ i=>simp at hi⟩
       (fun j t ht=>(key j t ht).choose_spec.2.2)
      simpa [add_zero] using this
    ·cases h
   ·cases h
  ·cases h
 |vp=>simp[mu] at h
 |fn=>simp[mu] at h
theorem uj:∀{q:Nat} {xs ys:List T} {vs:List Value},(∀(j:Nat) (x:T),xs[j]? =some x→raw[q+j]? =some x)→dH (mu np o) xs=some ys→dA (cx F Pr E o w) xs vs→wa X (iY E o np raw) lent q ys vs
 |q,[],ys,vs,hq,h,hr=>by
  simp[dH] at h;subst h;have:=hr.1;cases vs with
  |nil=>trivial
  |cons=>simp at this
 |q,x::xs,ys,vs,hq,h,hr=>by
  simp only[dH] at h;split at h
  ·rename_i y ys' h1 h2;cases h;obtain⟨v,vs',rfl,r1,r2⟩:=hr.n7;exact⟨ui R K hw hl (by simpa using hq 0 x (by simp)) h1 r1,uj (fun j z hz=>by rw[show q+1+j=q+(j+1) from by omega];exact hq (j+1) z (by simpa using hz)) h2 r2⟩
  ·cases h
theorem zu{q:Nat}{x y:V}{v:Value}(hq:∀(j:Nat) (c:T),(x.cells.getD [])[j]? =some c→raw[q+j]? =some c)(h:V.fin np o x=some y)(hr:eK (cx F Pr E o w) x v):
  qS X (iY E o np raw) lent q y v∧y.width=(x.cells.getD []).length:=by
 cases hr with
 |c x v hr=>
  simp only[V.fin,al] at h;obtain⟨y,hy,rfl⟩:=h;exact⟨ui R K hw hl (by simpa using hq 0 x (by simp[V.cells])) hy hr,rfl⟩
 |a xs cs hn hr=>
  simp only[V.fin,al] at h;obtain⟨ys,hy,rfl⟩:=h;refine⟨uj R K hw hl (xs:=xs) (by simpa [V.cells] using hq) hy ⟨by simpa using hn,fun i t v ht hv=>hr i t v ht (by simpa using hv)⟩, ?_⟩;simp[V.width,V.cells,eI hy]
 |hC=>simp[V.fin] at h
 |undef=>simp[V.fin] at h
theorem r_:∀{q:Nat} {xs ys:List V} {vs:List Value},(∀(j:Nat) (c:T),(xs.flatMap fun x=>x.cells.getD [])[j]? =some c→raw[q+j]? =some c)→dH (V.fin np o) xs=some ys→
  xs.length=vs.length→(∀(i:Nat) (x:V) (v:Value),xs[i]? =some x→vs[i]? =some v→eK (cx F Pr E o w) x v)→qh X (iY E o np raw) lent q ys vs
 |q,[],ys,vs,hq,h,hn,hr=>by
  simp[dH] at h;subst h;cases vs with
  |nil=>trivial
  |cons=>simp at hn
 |q,x::xs,ys,vs,hq,h,hn,hr=>by
  simp only[dH] at h;split at h
  ·rename_i y ys' h1 h2;cases h;cases vs with
   |nil=>simp at hn
   |cons v vs=>
    obtain⟨k1,k2⟩:=zu R K hw hl (q:=q) (fun j c hc=>hq j c (by rw[ct,List.getElem?_append_left (List.getElem?_eq_some_iff.1 hc).1];exact hc)) h1 (hr 0 x v (by simp) (by simp));refine⟨k1,r_ (fun j c hc=> ?_) h2 (by simpa using hn) (fun i x v hx hv=>hr (i+1) x v (by simpa using hx) (by simpa using hv))⟩;rw[k2,Nat.add_assoc];exact hq _ c (by rw[ct,List.getElem?_append_right (by omega),Nat.add_sub_cancel_left];exact hc)
  ·cases h
end fin
end Mx
namespace Mx
open Go
variable {P:Program} {F:Nat→FuncId} {Pr:Nat→Prop} {w0:World} {lb:Lb} {N:Nat} {E:Nat→Option Loc} {n:Nat→Prop} {t:List (Nat×V)} {o:List (Nat×Ob)} {a:Act} {w:World}
def a7(P:Program)(F:Nat→FuncId)(f:Nat)(b:Fn):Bool:=
 match P.funcs[F f]? with
 |some fn=>(fn.name != "runtime.NumGoroutine")&&decide (b.np≤fn.ntmps)&&tZ P b.res fn.results.toList&&(match fn.body with|some c=>lV P F fn.ntmps b.body c|none=>false)
 |none=>false
theorem lx:∀{m:Nat} {as:List V} {k d:Nat} {v:V},get ((List.range' k m).zip as) d=some v→k≤d∧as[d-k]? =some v
 |0,as,k,d,v,h=>by simp[get] at h
 |m+1,[],k,d,v,h=>by simp[get] at h
 |m+1,x::as,k,d,v,h=>by
  rw[List.range'_succ,List.zip_cons_cons] at h;simp only[get] at h;split at h
  ·rename_i e;cases h;subst e;simp
  ·obtain⟨h1,h2⟩:=lx h;refine⟨by omega, ?_⟩;rw[show d-k=(d-(k+1))+1 from by omega];simpa using h2
def BP(lent:List (Nat×Ob))(E0:Nat→Option Loc):Lb:=⟨pb lent E0,E0⟩
theorem vu{E0:Nat→Option Loc}{as:List V}{lent:List (Nat×Ob)}{vals:Array Value}(En:Entry F Pr E0 as lent vals w){m:Nat}(hm:as.length≤m):
  Rel F Pr w (BP lent E0) m E0 (fun k=>k<2000000) ((List.range as.length).zip as) lent {tmps:=vals++Array.replicate (m-vals.size) undef,defers:=[]} w:=by
 have hsz:vals.size=as.length:=En.n.symm;refine⟨rfl,rfl,rfl,Nat.le_refl _,fun _ _ _=>rfl,rfl,by simp;omega, ?_, ?_, ?_,En.jd,En.fresh,En.pr,fun _ _ h=>h⟩
 ·intro d v hv;rw[List.range_eq_range'] at hv;obtain⟨_,h2⟩:=lx hv;simp only[Nat.sub_zero] at h2;have hd:d<vals.size:=by rw[hsz];exact(List.getElem?_eq_some_iff.1 h2).1
  refine En.args d v _ h2 ?_;rw[bY,Array.getElem?_append_left hd,Array.getElem?_eq_getElem hd,fh]
 ·intro id ob hg;obtain⟨h1,h2,h3,l,h4,h5⟩:=En.iJ id ob hg;exact⟨by rw[h1];exact h2.2,l,by rw[h1];exact h4,h5⟩
 ·intro id ob b cap sz hg hE;exact⟨En.place id ob b cap sz hg hE,.inr ⟨id,ob,cap,sz,hg,hE⟩⟩
theorem xn{E0:Nat→Option Loc}{as:List V}{lent:List (Nat×Ob)}{vals:Array Value}(En:Entry F Pr E0 as lent vals w0){np:Nat}(hnp:as.length=np)(R:Rel F Pr w0 (BP lent E0) N E n t o a w)
  {rs vs:List V} {after:List (Nat×Ob)} {xs:List Value} (hlf:k9 o lent=some after) (hnd:(rs.flatMap (qB np o)).Nodup) (hfin:dH (V.fin np o) rs=some vs)
  (hlen:rs.length=xs.length) (hrep:∀(i:Nat) (v:V) (x:Value),rs[i]? =some v→xs[i]? =some x→eK (cx F Pr E o w) v x):
  Ah F Pr E0 lent w0 E (iY E o np (rs.flatMap fun x=>x.cells.getD [])) (yM vs) after (if h:xs.length=1 then xs[0] else .tuple xs.toArray) w:=by
 have hl:∀p ob,get lent p=some ob→∃b,get o p=some b∧b.bA=p:=by
  intro p ob hg;obtain⟨b,_,h1,h2,_⟩:=jX hlf p ob hg;exact⟨b,h1,h2⟩
 have hLB:∀bk,pb lent E0 bk→∃p b cap sz,get o p=some b∧b.w=true∧gS np p=true∧E b.bA=some (.fY bk cap sz):=by
  rintro bk ⟨p,ob,cap,sz,h1,h2⟩;obtain⟨b,_,g1,g2,g3,_⟩:=jX hlf p ob h1;obtain⟨e1,e2,_⟩:=En.iJ p ob h1;exact⟨p,b,cap,sz,g1,g3,by rw[←hnp];exact e2.1,by rw[g2,←e1];exact R.ext _ _ h2⟩
 have K:fT (cx F Pr E o w) (rx F Pr E0 lent E (iY E o np (rs.flatMap fun x=>x.cells.getD [])) w):=by
  refine⟨rfl,fun _ _ h=>h,fun ad v hu hc=>⟨hc, ?_⟩⟩;rintro (h|h|⟨q,cap,sz,h⟩)
  ·obtain⟨p,b,cap,sz,h1,h2,_,h3⟩:=hLB _ h;exact hu (.inl ⟨p,b,cap,sz,h1,h2,h3⟩)
  ·exact hu (.inr h)
  ·obtain⟨x,id,ob,_,_,_,h1,h2,h3⟩:=kZ h;exact hu (.inl ⟨id,ob,cap,sz,h1,h2,h3⟩)
 have hflat:rs.flatMap (qB np o)=(rs.flatMap fun x=>x.cells.getD []).flatMap (tY np o):=by
  rw[List.flatMap_assoc];congr 1
 refine⟨R.os,R.tape,R.output,R.size,R.frame,fun bA l h=>R.ext bA l h, ?_, ?_, ?_, ?_⟩
 ·intro q b cap sz h;obtain⟨x,id,ob,_,_,hge,h1,h2,h3⟩:=kZ h;obtain⟨p1,p2⟩:=R.place id ob b cap sz h1 h3;refine⟨.inl ?_,p1⟩;rcases p2 with p2|p2
  ·exact p2
  ·obtain⟨p,b',cap',sz',g1,g2,g3,g4⟩:=hLB _ p2;have:=R.jd id p ob b' b cap sz cap' sz' h1 g1 h3 g4;rw[this,g3] at hge;cases hge
 ·intro q q' b cap sz cap' sz' h h';obtain⟨x,id,ob,e1,e2,_,h1,h2,h3⟩:=kZ h;obtain⟨x',id',ob',e1',e2',_,h1',h2',h3'⟩:=kZ h';have:=R.jd id id' ob ob' b cap sz cap' sz' h1 h1' h3 h3';subst this;rw[hflat] at hnd;exact ny hnd e1 e1' (k:=id) (by rw[e2];simp) (by rw[e2'];simp)
 ·have hvs:=r_ R K rfl hl (raw:=rs.flatMap fun x=>x.cells.getD []) (q:=0) (fun j c hc=>by simpa using hc) hfin hlen hrep;have hvl:vs.length=xs.length:=by rw[eI hfin,hlen]
  cases vs with
  |nil=>
   cases xs with
   |nil=>exact hvs
   |cons=>simp at hvl
  |cons v vs=>
   cases vs with
   |nil=>
    cases xs with
    |nil=>simp at hvl
    |cons x xs=>
     cases xs with
     |cons=>simp at hvl
     |nil=>
      simp only[yM,d_,dite_true,List.getElem_cons_zero];have h1:=hvs.1;cases v with
      |c=>exact h1
      |a=>exact h1
      |hC=>simp[qS] at h1
      |undef=>simp[qS] at h1
   |cons v' vs=>
    cases xs with
    |nil=>simp at hvl
    |cons x xs=>
     cases xs with
     |nil=>simp at hvl
     |cons x' xs=>
      have:¬(x::x'::xs).length=1:=by simp
      rw[dif_neg this];exact hvs
 ·intro p ob ob' l hg ha hE;obtain⟨b,b',g1,g2,g3,g4,g5⟩:=jX hlf p ob hg;rw[ha] at g4;cases g4;obtain⟨e1,e2,e3,l',e4,e5⟩:=En.iJ p ob hg;rw[hE] at e4;cases e4;obtain⟨_,l2,hl2,hrl⟩:=R.iJ p b g1;rw[g2,R.ext p l hE] at hl2;cases hl2;cases l with
  |nil=>
   have hb:b.rows=[]:=hrl.1;rcases g5 with⟨rfl,hbx⟩|⟨rows,hm,rfl⟩
   ·exact⟨⟨hb,e5.2⟩,fun i j r t hi=>by rw[hb] at hi;simp at hi⟩
   ·rw[hb] at hm;simp[dH] at hm;subst hm;exact⟨⟨rfl,e5.2⟩,fun i j r t hi=>by simp at hi⟩
  |fY bk cap sz=>
   obtain⟨q1,q2⟩:=hrl;have q3:sz=ob.sz:=e5.1;rcases g5 with⟨rfl,hbx⟩|⟨rows,hm,rfl⟩
   ·exact⟨⟨q3,q2.move rfl rfl (by simp only;omega) (fun _=>q2.cl hbx) fun i j r t v _ _ hv=>hv.mono K⟩,q2.cl hbx⟩
   ·obtain⟨hlen',hwid,hcl,cs,e,fr,m1,m2,m3,m4⟩:=q2;have key:∀(i j:Nat) (r:List T) (t:T),rows[i]? =some r→r[j]? =some t→∃v,cs[i*b.sz+j]? =some v∧eo (cx F Pr E o w) t v∧cO t:=by
     intro i j r t hi ht;obtain⟨r0,k1,k2⟩:=fx hm hi;obtain⟨t0,k3,k4⟩:=fx k2 ht;obtain⟨v,m1,m2⟩:=m4 i j r0 t0 k1 k3;exact⟨v,m1,o2 R k4 m2,lh R k4 m2⟩
    have hclo:∀(i j:Nat) (r:List T) (t:T),rows[i]? =some r→r[j]? =some t→cO t:=fun i j r t hi ht=>(key i j r t hi ht).choose_spec.2.2
    have hbs:ob.sz=b.sz:=by omega
    refine⟨⟨q3,by simp only[eI hm];exact hlen', ?_,fun _=>hclo,cs,e,fr,m1,by simp only;rw[hbs];exact m2,m3, ?_⟩,hclo⟩
    ·intro i r hi;obtain⟨r0,k1,k2⟩:=fx hm hi;simp only;rw[eI k2,hbs];exact hwid i r0 k1
    ·simp only;rw[hbs];intro i j r t hi ht;obtain⟨v,m1,m2,_⟩:=key i j r t hi ht;exact⟨v,m1,m2.mono K⟩
theorem AZ{cf:bH}(hcf:kU P F cf){k f:Nat}{b:Fn}(hok:a7 P F f b=true){as:List V}{lent:List (Nat×Ob)}{res:V}{after:List (Nat×Ob)}(h:bB cf k b as lent=some (res,after)):
  sZ P F f=true∧∀Pr E0 vals w,Entry F Pr E0 as lent vals w→Calls P (F f) vals w fun e w'=>∃val E' own,e= .returned val∧Ah F Pr E0 lent w E' own res after val w':=by
 unfold a7 at hok;split at hok
 ·rename_i fn hfn;simp only[aj,decide_eq_true_eq] at hok;obtain⟨⟨⟨hname,hnp⟩,hres⟩,hbody⟩:=hok;split at hbody
  ·rename_i c hc;refine⟨by simp[sZ,hfn,hc];simpa using hname, ?_⟩;intro Pr E0 vals w En;unfold bB at h;split at h
   ·rename_i hlen;have R0:=vu En (m:=fn.ntmps) (by omega);rw[hlen] at R0;refine calls_of_wp hfn hc ?_;split at h
    ·cases h
    ·rename_i out s hne hex;split at h
     ·rename_i rs after' hrs hlf;split at h
      ·rename_i hnd;rw[al] at h;obtain⟨vs,hvs,he⟩:=h;simp only[aH] at he;obtain⟨rfl,rfl⟩:=he;refine AY hcf k b.body c hbody (s:={t:=(List.range b.np).zip as,o:=lent,n:=2000000}) R0 hex ?_;intro E' a' w' R';obtain⟨xs,hxs,hl,hrep⟩:=nI R' hres hrs;have hrun:=rF hxs;have B:=xn En hlen R' hlf hnd hvs hl hrep;cases out with
       |exit id=>exact(hne _ rfl).elim
       |normal=>exact⟨R'.defers,_,hrun,_,_,_,rfl,B⟩
       |ret=>exact⟨R'.defers,_,hrun,_,_,_,rfl,B⟩
      ·cases h
     ·cases h
    ·cases h
   ·cases h
  ·cases hbody
 ·cases hok
def B8(P:Program)(F:Nat→FuncId)(f:Nat)(g:List V→List (Nat×Ob)→Option (V×List (Nat×Ob))):Prop:=
 ∀as lent res after,g as lent=some (res,after)→sZ P F f=true∧∀Pr E0 vals w,Entry F Pr E0 as lent vals w→
  Calls P (F f) vals w fun e w'=>∃val E' own,e= .returned val∧Ah F Pr E0 lent w E' own res after val w'
def lk(P:Program)(F:Nat→FuncId)(M:Nat→Option Body):Prop:=
 ∀f,match M f with
  |some (.code b)=>a7 P F f b=true
  |some (.ext g)=>B8 P F f g
  |none=>True
theorem xq{M:Nat→Option Body}(hM:lk P F M):∀k,kU P F (p6 M k)
 |0=>fun f as lent res after h=>by simp[p6] at h
 |k+1=>fun f as lent res after h=>by
  simp only[p6] at h;have hf:=hM f;split at h
  ·rename_i b hb;rw[hb] at hf;exact AZ (xq hM k) hf h
  ·rename_i g hg;rw[hg] at hf;exact hf as lent res after h
  ·cases h
end Mx
namespace Mx
open Go
def Le(cf cf':bH):Prop:=∀f as lent r,cf f as lent=some r→cf' f as lent=some r
theorem Le.refl(cf:bH):Le cf cf:=fun _ _ _ _ h=>h
theorem nF{cf cf':bH}(h:Le cf cf'){n:Nat}{o:List (Nat×Ob)}{f:Nat}{vals:List V}{lend:List Nat}{thaw:List (Nat×Nat)}{r:V×List (Nat×Ob)}(hd:dF cf n o f vals lend thaw=some r):
  dF cf' n o f vals lend thaw=some r:=by
 unfold dF at hd ⊢;split at hd
 ·cases hd
 ·rename_i as ls b hargs;split at hd
  ·rename_i hc;rw[if_pos hc];split at hd
   ·cases hd
   ·rename_i res after hres;rw[h _ _ _ _ hres];exact hd
  ·cases hd
theorem sw{cf cf':bH}(h:Le cf cf'){n d:Nat}{t:List (Nat×V)}{o:List (Nat×Ob)}{m:MO}{r:V×List (Nat×Ob)}(ha:act cf n d t o m=some r):act cf' n d t o m=some r:=by
 cases m with
 |call f as lend thaw=>
  simp only[act] at ha ⊢;split at ha
  ·exact nF h ha
  ·cases ha
 |lz x as=>
  simp only[act] at ha ⊢;split at ha
  ·exact nF h ha
  ·cases ha
 |_=>exact ha
theorem pI{cf cf':bH}(h:Le cf cf'){n i:Nat}{m:gN}{t:List (Nat×V)}{o:List (Nat×Ob)}{r:List (Nat×V)×List (Nat×Ob)}(hs:step cf n i m t o=some r):step cf' n i m t o=some r:=by
 unfold step at hs ⊢;split at hs
 ·rw[al] at hs ⊢;obtain⟨x,hx,rfl⟩:=hs;exact⟨x,sw h hx,rfl⟩
 ·exact hs
 ·cases hs
theorem jH{cf cf':bH}(h:Le cf cf'){n:Nat}:∀{ms:List gN} {i:Nat} {t:List (Nat×V)} {o:List (Nat×Ob)} {r:List (Nat×V)×List (Nat×Ob)},steps cf n i ms t o=some r→steps cf' n i ms t o=some r
 |[],i,t,o,r,hs=>hs
 |m::ms,i,t,o,r,hs=>by
  simp only[steps] at hs ⊢;split at hs
  ·rename_i t' o' h1;rw[pI h h1];exact jH h hs
  ·cases hs
theorem oS{cf cf':bH}(h:Le cf cf'){n i:Nat}{m:gN}{t:List (Nat×V)}{o:List (Nat×Ob)}{e:ig}(hs:gM cf n i m t o=some e):gM cf' n i m t o=some e:=by
 unfold gM at hs ⊢;split at hs
 ·rw[al] at hs ⊢;obtain⟨x,hx,rfl⟩:=hs;exact⟨x,sw h hx,rfl⟩
 ·exact hs
 ·cases hs
theorem iW{cf cf':bH}(h:Le cf cf'){n:Nat}:∀{ms:List gN} {as:List (List Nat)} {i:Nat} {t:List (Nat×V)} {o:List (Nat×Ob)} {acc:List (Nat×ig)} {r:List (Nat×V)×List (Nat×Ob)},eC cf n i ms as t o acc=some r→eC cf' n i ms as t o acc=some r
 |[],as,i,t,o,acc,r,hs=>hs
 |m::ms,[],i,t,o,acc,r,hs=>by simp[eC] at hs
 |m::ms,a::as,i,t,o,acc,r,hs=>by
  simp only[eC] at hs ⊢;split at hs
  ·rename_i e he;rw[oS h he];simp only;split at hs
   ·rename_i hc;rw[if_pos hc];exact iW h hs
   ·cases hs
  ·cases hs
theorem jW{f g:St→Option (Out×St)}(h:∀s r,f s=some r→g s=some r):∀{m m':Nat} (_:m≤m') {s:St} {r:Out×St},dP f m s=some r→dP g m' s=some r
 |0,_,_,s,r,hl=>by simp[dP] at hl
 |m+1,0,hm,_,_,_=>by omega
 |m+1,m'+1,hm,s,r,hl=>by
  simp only[dP] at hl ⊢;cases hf:f s with
  |none=>rw[hf] at hl;cases hl
  |some x=>
   obtain⟨out,s'⟩:=x;rw[hf] at hl;rw[h s _ hf];cases out with
   |normal=>exact jW h (by omega) hl
   |exit id=>exact hl
   |ret=>exact hl
theorem xx{cf cf':bH}(h:Le cf cf'){k k':Nat}(hk:k≤k'):∀(c:C) {s:St} {r:Out×St},b9 cf k c s=some r→b9 cf' k' c s=some r:=by
 intro c
 induction c with
 |skip=>intro s r hs;exact hs
 |ay ops kt ko=>
  intro s r hs;simp only[b9,al] at hs ⊢;obtain⟨x,hx,rfl⟩:=hs;exact⟨x,jH h hx,rfl⟩
 |eD ops anc kt ko=>
  intro s r hs;simp only[b9,al] at hs ⊢;obtain⟨x,hx,rfl⟩:=hs;exact⟨x,iW h hx,rfl⟩
 |seq a b iha ihb=>
  intro s r hs;simp only[b9] at hs ⊢;cases ha:b9 cf k a s with
  |none=>rw[ha] at hs;cases hs
  |some x=>
   obtain⟨out,s'⟩:=x;rw[ha] at hs;rw[iha ha];cases out with
   |normal=>exact ihb hs
   |exit id=>exact hs
   |ret=>exact hs
 |cond c a b iha ihb=>
  intro s r hs;simp only[b9] at hs ⊢;split at hs
  ·rename_i hc;exact iha hs
  ·rename_i hc;exact ihb hs
  ·cases hs
 |block id a iha=>
  intro s r hs;simp only[b9] at hs ⊢;cases ha:b9 cf k a s with
  |none=>rw[ha] at hs;cases hs
  |some x=>
   obtain⟨out,s'⟩:=x;rw[ha] at hs;rw[iha ha];exact hs
 |loop a iha=>
  intro s r hs;simp only[b9] at hs ⊢;exact jW (fun s r h=>iha h) hk hs
 |exit id=>intro s r hs;exact hs
 |ret=>intro s r hs;exact hs
 |shut ids a iha=>intro s r hs;simp only[b9] at hs ⊢;exact iha hs
theorem xB{cf cf':bH}(h:Le cf cf'){k k':Nat}(hk:k≤k'){f:Fn}{as:List V}{lent:List (Nat×Ob)}{r:V×List (Nat×Ob)}(hs:bB cf k f as lent=some r):bB cf' k' f as lent=some r:=by
 unfold bB at hs ⊢;split at hs
 ·rename_i hn;rw[if_pos hn];cases hx:b9 cf k f.body {t:=(List.range f.np).zip as,o:=lent,n:=2000000} with
  |none=>rw[hx] at hs;cases hs
  |some x=>
   rw[hx] at hs;rw[xx h hk _ hx];exact hs
 ·cases hs
theorem gG(M:Nat→Option Body):∀{k k':Nat},k≤k'→Le (p6 M k) (p6 M k')
 |0,_,_=>fun f as lent r h=>by simp[p6] at h
 |k+1,0,hk=>by omega
 |k+1,k'+1,hk=>fun f as lent r h=>by
  have hk':k≤k':=by omega
  simp only[p6] at h ⊢;cases hM:M f with
  |none=>rw[hM] at h;cases h
  |some b=>
   rw[hM] at h;cases b with
   |code b=>exact xB (gG M hk') hk' h
   |ext g=>exact h
noncomputable def run (M:Nat→Option Body):bH:=fun f as lent=>
 open Classical in if h:∃r,∃k,p6 M k f as lent=some r then some h.choose else none
theorem qx{M:Nat→Option Body}{f:Nat}{as:List V}{lent:List (Nat×Ob)}{r:V×List (Nat×Ob)}:run M f as lent=some r↔∃k,p6 M k f as lent=some r:=by
 unfold run;constructor
 ·intro h;split at h
  ·rename_i hx;cases h;exact hx.choose_spec
  ·cases h
 ·rintro ⟨k,hk⟩;have hx:∃r,∃k,p6 M k f as lent=some r:=⟨r,k,hk⟩
  rw[dif_pos hx];obtain⟨k2,h2⟩:=hx.choose_spec;have e1:=gG M (Nat.le_max_left k k2) _ _ _ _ hk;have e2:=gG M (Nat.le_max_right k k2) _ _ _ _ h2;rw[e1] at e2;exact e2.symm
theorem AQ{P:Program}{F:Nat→FuncId}{M:Nat→Option Body}(hM:lk P F M):kU P F (run M):=by
 intro f as lent res after h;obtain⟨k,hk⟩:=qx.1 h;exact xq hM k f as lent res after hk
section
variable {M:Nat→Option Body}
theorem uD{n d:Nat}{t:List (Nat×V)}{o:List (Nat×Ob)}{m:MO}{r:V×List (Nat×Ob)}(h:act (run M) n d t o m=some r):∃k,act (p6 M k) n d t o m=some r:=by
 have key:∀{f vals lend thaw},dF (run M) n o f vals lend thaw=some r→∃k,dF (p6 M k) n o f vals lend thaw=some r:=by
  intro f vals lend thaw hd;unfold dF at hd;split at hd
  ·cases hd
  ·rename_i as ls b hargs;split at hd
   ·rename_i hc;split at hd
    ·cases hd
    ·rename_i res after hres;obtain⟨k,hk⟩:=qx.1 hres;refine⟨k, ?_⟩;unfold dF;rw[hargs];simp only;rw[if_pos hc,hk];exact hd
   ·cases hd
 cases m with
 |call f as lend thaw=>
  simp only[act] at h ⊢;split at h
  ·rename_i vals hv;exact key h
  ·cases h
 |lz x as=>
  simp only[act] at h ⊢;split at h
  ·exact key h
  ·cases h
 |_=>exact⟨0,h⟩
theorem pH{n:Nat}:∀{ms:List gN} {i:Nat} {t:List (Nat×V)} {o:List (Nat×Ob)} {r:List (Nat×V)×List (Nat×Ob)},steps (run M) n i ms t o=some r→∃k,steps (p6 M k) n i ms t o=some r
 |[],i,t,o,r,h=>⟨0,h⟩
 |m::ms,i,t,o,r,h=>by
  simp only[steps] at h;split at h
  ·rename_i t' o' h1;obtain⟨k2,h2⟩:=pH h;have:∃k1,step (p6 M k1) n i m t o=some (t',o'):=by
    unfold step at h1;split at h1
    ·rename_i hw;rw[al] at h1;obtain⟨x,hx,hx2⟩:=h1;obtain⟨k,hk⟩:=uD hx;refine⟨k, ?_⟩;unfold step;rw[hw];simp only[hk,eX,hx2]
    ·rename_i hw;refine⟨0, ?_⟩;unfold step;rw[hw];exact h1
    ·cases h1
   obtain⟨k1,h1'⟩:=this;refine⟨max k1 k2, ?_⟩;simp only[steps];rw[pI (gG M (Nat.le_max_left k1 k2)) h1'];exact jH (gG M (Nat.le_max_right k1 k2)) h2
  ·cases h
theorem oh{n:Nat}:∀{ms:List gN} {as:List (List Nat)} {i:Nat} {t:List (Nat×V)} {o:List (Nat×Ob)} {acc:List (Nat×ig)} {r:List (Nat×V)×List (Nat×Ob)},eC (run M) n i ms as t o acc=some r→∃k,eC (p6 M k) n i ms as t o acc=some r
 |[],as,i,t,o,acc,r,h=>⟨0,h⟩
 |m::ms,[],i,t,o,acc,r,h=>by simp[eC] at h
 |m::ms,a::as,i,t,o,acc,r,h=>by
  simp only[eC] at h;split at h
  ·rename_i e he;split at h
   ·rename_i hc;obtain⟨k2,h2⟩:=oh h;have:∃k1,gM (p6 M k1) n i m t o=some e:=by
     unfold gM at he;split at he
     ·rename_i hw;rw[al] at he;obtain⟨x,hx,hx2⟩:=he;obtain⟨k,hk⟩:=uD hx;refine⟨k, ?_⟩;unfold gM;rw[hw];simp only[hk,eX,hx2]
     ·rename_i hw;refine⟨0, ?_⟩;unfold gM;rw[hw];exact he
     ·cases he
    obtain⟨k1,h1⟩:=this;refine⟨max k1 k2, ?_⟩;simp only[eC];rw[oS (gG M (Nat.le_max_left k1 k2)) h1];simp only;rw[if_pos hc];exact iW (gG M (Nat.le_max_right k1 k2)) h2
   ·cases h
  ·cases h
theorem zz{k:Nat}:∀(c:C) {s:St} {r:Out×St},b9 (run M) k c s=some r→∃K,∀k',K≤k'→b9 (p6 M k') (max k k') c s=some r:=by
 intro c
 induction c with
 |skip=>intro s r h;exact⟨0,fun _ _=>h⟩
 |ay ops kt ko=>
  intro s r h;simp only[b9,al] at h ⊢;obtain⟨x,hx,rfl⟩:=h;obtain⟨K,hK⟩:=pH hx;exact⟨K,fun k' hk'=>⟨x,jH (gG M hk') hK,rfl⟩⟩
 |eD ops anc kt ko=>
  intro s r h;simp only[b9,al] at h ⊢;obtain⟨x,hx,rfl⟩:=h;obtain⟨K,hK⟩:=oh hx;exact⟨K,fun k' hk'=>⟨x,iW (gG M hk') hK,rfl⟩⟩
 |seq a b iha ihb=>
  intro s r h;simp only[b9] at h ⊢;cases ha:b9 (run M) k a s with
  |none=>rw[ha] at h;cases h
  |some x=>
   obtain⟨out,s'⟩:=x;rw[ha] at h;obtain⟨K1,h1⟩:=iha ha;cases out with
   |normal=>
    obtain⟨K2,h2⟩:=ihb h;exact⟨max K1 K2,fun k' hk'=>by rw[h1 k' (by omega)];exact h2 k' (by omega)⟩
   |exit id=>exact⟨K1,fun k' hk'=>by rw[h1 k' hk'];exact h⟩
   |ret=>exact⟨K1,fun k' hk'=>by rw[h1 k' hk'];exact h⟩
 |cond c a b iha ihb=>
  intro s r h;simp only[b9] at h ⊢;split at h
  ·exact iha h
  ·exact ihb h
  ·cases h
 |block id a iha=>
  intro s r h;simp only[b9] at h ⊢;cases ha:b9 (run M) k a s with
  |none=>rw[ha] at h;cases h
  |some x=>
   obtain⟨out,s'⟩:=x;rw[ha] at h;obtain⟨K1,h1⟩:=iha ha;exact⟨K1,fun k' hk'=>by rw[h1 k' hk'];exact h⟩
 |loop a iha=>
  intro s r h;simp only[b9] at h ⊢;have key:∀(m:Nat) {s:St},dP (b9 (run M) k a) m s=some r→∃K,∀k',K≤k'→dP (b9 (p6 M k') (max k k') a) m s=some r:=by
   intro m
   induction m with
   |zero=>intro s h;simp[dP] at h
   |succ m ihm=>
    intro s h;simp only[dP] at h;cases ha:b9 (run M) k a s with
    |none=>rw[ha] at h;cases h
    |some x=>
     obtain⟨out,s'⟩:=x;rw[ha] at h;obtain⟨K1,h1⟩:=iha ha;cases out with
     |normal=>
      obtain⟨K2,h2⟩:=ihm h;exact⟨max K1 K2,fun k' hk'=>by simp only[dP];rw[h1 k' (by omega)];exact h2 k' (by omega)⟩
     |exit id=>exact⟨K1,fun k' hk'=>by simp only[dP];rw[h1 k' hk'];exact h⟩
     |ret=>exact⟨K1,fun k' hk'=>by simp only[dP];rw[h1 k' hk'];exact h⟩
  obtain⟨K,hK⟩:=key k h;exact⟨K,fun k' hk'=>jW (fun _ _ h=>h) (Nat.le_max_left _ _) (hK k' hk')⟩
 |exit id=>intro s r h;exact⟨0,fun _ _=>h⟩
 |ret=>intro s r h;exact⟨0,fun _ _=>h⟩
 |shut ids a iha=>intro s r h;simp only[b9] at h ⊢;exact iha h
end
theorem aq{M:Nat→Option Body}{f:Nat}{b:Fn}(hM:M f=some (.code b)){as:List V}{lent:List (Nat×Ob)}{r:V×List (Nat×Ob)}(h:∃k,bB (run M) k b as lent=some r):run M f as lent=some r:=by
 obtain⟨k,h⟩:=h;unfold bB at h;split at h
 ·rename_i hn;cases hx:b9 (run M) k b.body {t:=(List.range b.np).zip as,o:=lent,n:=2000000} with
  |none=>rw[hx] at h;cases h
  |some x=>
   rw[hx] at h;obtain⟨K,hK⟩:=zz _ hx;refine qx.2 ⟨max k K+1, ?_⟩;simp only[p6,hM];unfold bB;rw[if_pos hn];have:=hK (max k K) (Nat.le_max_right _ _);rw[show max k (max k K)=max k K from by omega] at this;rw[this];exact h
 ·cases h
end Mx
namespace Mx
open Go
attribute [simp] kI kB lr Q Qn Qg Qm Qf Ql QL Qs Qb Qi Qx Qa Qv
attribute [simp] b9 steps step act wanted h_ look eh nr jl iM oC jm nN get place lenOf bin nR om th V.cells dH setAt mM lS rowsOf nh max2 min2 Bn p8 wO yM V.fin mu k9 qB args jn gS te V.im im yy lG V.wr uH wb wr cl dF back kR j8 mD jx V.flat js fy j9 gg T.scalar mN
theorem xa{α:Type}(l:List (Nat×α)):keep [] l=[]:=rfl
theorem pW{α:Type}(k:Nat)(ks:List Nat)(l:List (Nat×α)):keep (k::ks) l=match get l k with|some v=>(k,v)::keep ks l|none=>keep ks l:=by
 cases h:get l k<;>simp[keep,h]
attribute [simp] xa pW
abbrev I(n:Int):T:= .int .i64 n
abbrev U8(n:Int):T:= .int .u8 n
abbrev bs(l:List UInt8):ByteArray:=⟨l.toArray⟩
abbrev S(l:List UInt8):T:= .str (bs l)
theorem ux(l:List UInt8):(bs l).size=l.length:=by simp[ByteArray.size]
theorem ar(l:List UInt8)(i:Nat)(h:i<(bs l).size):(bs l)[i]=l[i]'(by simpa [ux] using h):=by
 simp[bs,ByteArray.getElem_eq_getElem_data]
theorem vF(a b:List UInt8):bs a++bs b=bs (a++b):=by
 apply ByteArray.ext;simp[bs,ByteArray.data_append]
theorem tw(a:List UInt8)(i j:Nat):(bs a).extract i j=bs ((a.take j).drop i):=by
 apply ByteArray.ext;simp[bs,ByteArray.data_extract,List.drop_take]
theorem jt(a:List UInt8):(bs a).toList=a:=by
 rw[ByteArray.toList_eq]
attribute [simp] ux vF tw jt
theorem nX(a b:List UInt8):(a==b)=decide (a=b):=by rw[Bool.eq_iff_iff];simp
theorem ak(a b:List UInt8)(h:a.length+b.length≤4611686018427387904):eN .add (bs a) (bs b)=some (S (a++b)):=by
 simp[eN,h]
theorem lT(a b:List UInt8):eN .eql (bs a) (bs b)=some (.bool (decide (a=b))):=by simp only[eN,jt,nX]
theorem yO(a b:List UInt8):eN .neq (bs a) (bs b)=some (.bool !decide (a=b)):=by simp only[eN,jt,nX]
theorem yP(a b:List UInt8):eN .lss (bs a) (bs b)=some (.bool (gw a b)):=by simp[eN]
theorem yQ(a b:List UInt8):eN .leq (bs a) (bs b)=some (.bool (gw a b||decide (a=b))):=by simp only[eN,jt,nX]
theorem yR(a b:List UInt8):eN .gtr (bs a) (bs b)=some (.bool !(gw a b||decide (a=b))):=by simp only[eN,jt,nX]
theorem yS(a b:List UInt8):eN .geq (bs a) (bs b)=some (.bool !(gw a b)):=by simp[eN]
attribute [simp] ak lT yO yP yQ yR yS
theorem wrap_i64{x:Int}(h: -9223372036854775808≤x)(h':x≤9223372036854775807):IntKind.i64.wrap x=x:=by
 unfold IntKind.wrap;simp[IntKind.bits,IntKind.signed]<;>omega
theorem dS{i:Nat}(h:i<9223372036854775807):IntKind.i64.wrap ((i:Int)+1)=(i:Int)+1:=wrap_i64 (by omega) (by omega)
theorem tV(a b:UInt8):(a.toNat:Int)<(b.toNat:Int)↔a<b:=by
 rw[UInt8.lt_iff_toNat_lt];omega
theorem n8(a b:UInt8):((a.toNat:Int)=(b.toNat:Int))↔a=b:=by
 rw[←UInt8.toNat_inj];omega
theorem od{α:Type}(l:List α)(i:Nat)(hi:i<l.length):(l.take (i+1)).drop i=[l[i]]:=by
 rw[List.take_succ_eq_append_getElem hi,List.drop_append_of_le_length (by simp;omega),dQ (by simp;omega)];rfl
def m8(l:List UInt8):List (List T):=l.map fun b=>[U8 b.toNat]
theorem xJ(l:List UInt8):(m8 l).length=l.length:=by simp[m8]
theorem sf(a b:List UInt8):m8 a++m8 b=m8 (a++b):=by simp[m8]
theorem vG(a:List UInt8)(n:Nat):(m8 a).take n=m8 (a.take n):=by simp[m8]
theorem j5(l:List UInt8):fz (m8 l)=some l:=by
 induction l with
 |nil=>rfl
 |cons b l ih=>
  unfold fz m8 at ih ⊢;simp only[aL,dH,ih];simp
theorem tz(l:List UInt8):(m8 l).isEmpty=l.isEmpty:=by cases l<;>rfl
attribute [simp] xJ sf vG j5 tz
theorem rO{β:Type}{f:St→Option (Out×St)}(S:Nat→β→St)(Post:Out×St→Prop)(n:Nat)
  (h:∀i,i<n→∀x,∃y,f (S i x)=some (.normal,S (i+1) y)) (hend:∀x,∃r,f (S n x)=some r∧r.1≠.normal∧Post r):
  ∀m,n<m→∀x,∃r,dP f m (S 0 x)=some r∧Post r:=by
 have key:∀d i,i+d=n→∀m,d<m→∀x,∃r,dP f m (S i x)=some r∧Post r:=by
  intro d
  induction d with
  |zero=>
   intro i hi m hm x;have:i=n:=by omega
   subst this;obtain⟨r,h1,h2,h3⟩:=hend x;cases m with
   |zero=>omega
   |succ m=>
    refine⟨r, ?_,h3⟩;simp only[dP,h1];obtain⟨out,s'⟩:=r;cases out with
    |normal=>exact(h2 rfl).elim
    |exit id=>rfl
    |ret=>rfl
  |succ d ih=>
   intro i hi m hm x;cases m with
   |zero=>omega
   |succ m=>
    obtain⟨y,hy⟩:=h i (by omega) x;obtain⟨r,h1,h2⟩:=ih (i+1) (by omega) m (by omega) y;exact⟨r,by simp only[dP,hy];exact h1,h2⟩
 intro m hm x;exact key n 0 (by omega) m hm x
theorem r9{α:Type}(p:α→Bool)(l:List α):∃n,n≤l.length∧(∀i (h:i<l.length),i<n→p l[i]=false)∧((n=l.length∧l.any p=false)∨(∃h:n<l.length,p l[n]=true∧l.any p=true)):=by
 induction l with
 |nil=>exact⟨0,Nat.le_refl _,fun i h=>by simp at h,.inl ⟨rfl,rfl⟩⟩
 |cons b l ih=>
  by_cases hb:p b=true
  ·exact⟨0,by simp,fun i _ h=>by omega,.inr ⟨by simp,hb,by simp[hb]⟩⟩
  ·have hb':p b=false:=by simpa using hb
   obtain⟨n,h1,h2,h3⟩:=ih;refine⟨n+1,by simpa using h1, ?_, ?_⟩
   ·intro i h hi;cases i with
    |zero=>exact hb'
    |succ i=>simpa using h2 i (by simpa using h) (by omega)
   ·rcases h3 with⟨rfl,h⟩|⟨h,q1,q2⟩
    ·left;exact⟨rfl,by rw[List.any_cons,hb',h];rfl⟩
    ·right;exact⟨by simpa using h,by simpa using q1,by rw[List.any_cons,q2];simp⟩
theorem vf{σ β ρ:Type}{f:St→Option (Out×St)}(S:σ→β→St)(Inv:σ→Prop)(μ:σ→Nat)(res:σ→ρ)(Post:ρ→Out×St→Prop)
  (h:∀s x,Inv s→(∃s' y,f (S s x)=some (.normal,S s' y)∧Inv s'∧μ s'<μ s∧res s'=res s)∨(∃r,f (S s x)=some r∧r.1≠.normal∧Post (res s) r)):
  ∀m s x,Inv s→μ s<m→∃r,dP f m (S s x)=some r∧Post (res s) r:=by
 intro m
 induction m with
 |zero=>intro s x _ h;omega
 |succ m ih=>
  intro s x hi hm;rcases h s x hi with⟨s',y,h1,h2,h3,h4⟩|⟨r,h1,h2,h3⟩
  ·obtain⟨r,k1,k2⟩:=ih s' y h2 (by omega);exact⟨r,by simp only[dP,h1];exact k1,by rw[←h4];exact k2⟩
  ·refine⟨r, ?_,h3⟩;simp only[dP,h1];obtain⟨out,s'⟩:=r;cases out with
   |normal=>exact(h2 rfl).elim
   |exit id=>rfl
   |ret=>rfl
theorem hO{σ β ρ γ:Type}{f:St→Option (Out×St)}(S:σ→β→St)(Inv:σ→Prop)(μ:σ→Nat)(res:σ→ρ)(fin:ρ→γ→Out×St)
  (h:∀s x,Inv s→(∃s' y,f (S s x)=some (.normal,S s' y)∧Inv s'∧μ s'<μ s∧res s'=res s)∨(∃z,f (S s x)=some (fin (res s) z)∧(fin (res s) z).1≠.normal)):
  ∀m s,Inv s→μ s<m→∃g:β→γ,∀x,dP f m (S s x)=some (fin (res s) (g x)):=by
 intro m s hi hm;have:=fun x=>vf S Inv μ res (fun q r=>∃z,r=fin q z)
  (fun s x hi=>by
   rcases h s x hi with h1|⟨z,h1,h2⟩
   ·exact .inl h1
   ·exact .inr ⟨_,h1,h2,z,rfl⟩) m s x hi hm
 refine⟨fun x=>(this x).choose_spec.2.choose,fun x=> ?_⟩;have h1:=(this x).choose_spec;rw[h1.1,←h1.2.choose_spec]
def MO.pure:MO→Bool
 | .mv _=>true
 | .pick .. =>true
 | .load .. =>true
 | .bin .. =>true
 | .beq .. =>true
 | .eqs .. =>true
 | .not _=>true
 | .neg _=>true
 | .qL .. =>true
 | .cS .. =>true
 | .eM .. =>true
 | .idx .. =>true
 | .yz .. =>true
 | .ext .. =>true
 | .len _=>true
 | .gJ _=>true
 | .ll .. =>true
 | .max .. =>true
 | .min .. =>true
 | .call _ _ l h=>l.isEmpty&&h.isEmpty
 |_=>false
def gL(cf:bH)(n d:Nat)(t:List (Nat×V))(o:List (Nat×Ob))(op:MO):yt:=match op with
 | .call f as l h=>act cf n d t (keep (eU t o (.call f as l h)) o) (.call f as l h)
 |op=>act cf n d t o op
def jI(cf:bH)(n:Nat):Nat→List gN→List (Nat×V)→List (Nat×Ob)→Option (List (Nat×V)×List (Nat×Ob))
 |_,[],t,o=>some (t,o)
 |i,m::ms,t,o=>match wanted t m.guard with
  |some true=>(match gL cf (n+16*i) (m.dst.getD 0) t o m.op with|some r=>jI cf n (i+1) ms (h_ t m.dst r.1) o|none=>none)
  |some false=>jI cf n (i+1) ms (h_ t m.dst .undef) o
  |none=>none
theorem qe{n:Nat}{l:List (Nat×Nat×Nat)}{q:Nat}{t:T}{r:T×List (Nat×Ob)}(h:jx n l [] q t=some r):r.2=[]:=by
 cases t<;>simp[jx,get] at h<;>try (subst h;rfl)
 split at h<;>simp at h
 subst h;rfl
theorem qf{n:Nat}{l:List (Nat×Nat×Nat)}:∀{ts:List T} {q:Nat} {r:List T×List (Nat×Ob)},mD n l [] q ts=some r→r.2=[]
 |[],_,r,h=>by simp[mD] at h;subst h;rfl
 |t::ts,q,r,h=>by
  simp only[mD] at h;split at h<;>try (cases h)
  rename_i a b hb;split at h<;>cases h
  rename_i a' b' hb';have h1:=qe hb;have h2:=qf hb';simp only at h1 h2;subst h1 h2;rfl
theorem qd{n:Nat}{l:List (Nat×Nat×Nat)}{q:Nat}{v:V}{r:V×List (Nat×Ob)×Nat}(h:kR n l [] q v=some r):r.2.1=[]:=by
 cases v<;>simp only[kR] at h<;>try (cases h)
 ·split at h<;>cases h
  rename_i a b hb;exact qe hb
 ·split at h<;>cases h
  rename_i a b hb;exact qf hb
theorem o8{n:Nat}{l:List (Nat×Nat×Nat)}:∀{vs:List V} {q:Nat} {r:List V×List (Nat×Ob)},j8 n l [] q vs=some r→r.2=[]
 |[],_,r,h=>by simp[j8] at h;subst h;rfl
 |v::vs,q,r,h=>by
  simp only[j8] at h;split at h<;>try (cases h)
  rename_i a b c hb;split at h<;>cases h
  rename_i a' b' hb';have h1:=qd hb;have h2:=o8 hb';simp only at h1 h2;subst h1 h2;rfl
theorem xK{n:Nat}{l:List (Nat×Nat×Nat)}{v:V}{r:V×List (Nat×Ob)}(h:back n l [] v=some r):r.2=[]:=by
 unfold back at h;split at h<;>simp only[al] at h<;>obtain⟨a,h1,rfl⟩:=h
 ·exact o8 h1
 ·exact qd h1
theorem sn{o:List (Nat×Ob)}:∀{vs:List V} {p:Nat} {r:List V×List (Nat×Nat×Ob)×List Nat},args o [] p vs=some r→r.2.1=[]
 |[],_,r,h=>by simp[args] at h;subst h;rfl
 |v::vs,p,r,h=>by
  simp only[args] at h;split at h<;>try (cases h)
  rename_i a b c hb;simp only[List.not_mem_nil,if_false,te,List.any_nil,az] at h;split at h<;>cases h
  exact sn (r:=(a,b,c)) hb
theorem tr{cf:bH}{n:Nat}{o:List (Nat×Ob)}{f:Nat}{vals:List V}{r:V×List (Nat×Ob)}(h:dF cf n o f vals [] []=some r):r.2=[]:=by
 unfold dF at h;split at h<;>try (cases h)
 rename_i as ls b ha;have:=sn ha;simp only at this;subst this;split at h<;>try (cases h)
 split at h<;>try (cases h)
 rename_i res after _;split at h<;>try (cases h)
 rename_i db v ups' h1 h2;simp[fy] at h1;have:=xK h2;simp only at this;subst this h1;split at h<;>cases h
 rfl
theorem xV{cf:bH}{n d:Nat}{t:List (Nat×V)}{o:List (Nat×Ob)}{op:MO}(hp:op.pure=true){r:V×List (Nat×Ob)}(h:act cf n d t o op=some r):r.2=[]:=by
 cases op<;>simp only[MO.pure] at hp<;>simp only[act] at h<;>try (cases hp;done)
 all_goals first
  |(simp only[al] at h;obtain⟨a,_,rfl⟩:=h;rfl)
  |(repeat' split at h)<;>first|(cases h;done)|(cases h;rfl)|(simp only[al] at h;obtain⟨a,_,rfl⟩:=h;rfl)|(simp only[List.isEmpty_iff,aj] at hp;obtain⟨rfl,rfl⟩:=hp;exact tr h)
theorem nw{α:Type}(ks:List Nat)(l:List (Nat×α)){x:Nat}(h:x∈ks):get (keep ks l) x=get l x:=by
 induction ks with
 |nil=>simp at h
 |cons k ks ih=>
  rw[pW];by_cases e:x=k
  ·subst e;cases hg:get l x with
   |none=>
    simp only[];by_cases hm:x∈ks
    ·rw[ih hm,hg]
    ·cases hq:get (keep ks l) x with
     |none=>rfl
     |some v=>exact(hm (mq ks l hq)).elim
   |some v=>simp[get]
  ·have hm:x∈ks:=by simpa [e] using h
   cases hg:get l k with
   |none=>exact ih hm
   |some v=>simp only[get,e,if_false];exact ih hm
theorem sX{o:List (Nat×Ob)}{ks:List Nat}{a:T}(h:∀x∈jq a,x∈ks):place (keep ks o) a=place o a:=by
 cases a<;>simp only[place]
 rename_i id bA i j;rw[nw ks o (h id (by simp[jq]))]
theorem uQ{t:List (Nat×V)}{o:List (Nat×Ob)}{op:MO}{n:Nat}{a:T}(h:n∈op.tm)(hg:get t n=some (.c a)):∀x∈jq a,x∈eU t o op:=by
 intro x hx;simp only[eU,dX];exact⟨n,h,by rw[hg];simp[ia,hx]⟩
def O.plain:O→Bool
 | .k v=>(jq v).isEmpty
 |_=>true
def MO.qA:MO→Bool
 | .load _ _ a=>a.plain
 | .eM _ x _=>x.plain
 |_=>true
theorem pR{t:List (Nat×V)}{o:List (Nat×Ob)}{op:MO}{x:O}{a:T}(hp:x.plain=true)(h:eh t x=some a)(hm:∀n,x= .t n→n∈op.tm):∀y∈jq a,y∈eU t o op:=by
 cases x with
 |t n=>
  simp only[eh,look] at h;split at h<;>cases h
  rename_i hg;exact uQ (hm n rfl) hg
 |k v=>
  simp only[eh,look] at h;cases h;simp only[O.plain,List.isEmpty_iff] at hp;intro y hy;rw[hp] at hy;cases hy
 |fn f=>
  simp only[eh,look] at h;cases h;intro y hy;simp[jq] at hy
theorem x7{cf:bH}{n d:Nat}{t:List (Nat×V)}{o:List (Nat×Ob)}{op:MO}(hp:op.pure=true)(hp2:op.qA=true):
  act cf n d t (keep (eU t o op) o) op=gL cf n d t o op:=by
 cases op<;>simp only[MO.pure] at hp<;>simp only[gL]<;>try (cases hp;done)
 all_goals try (simp only[act];done)
 case load agg k a=>
  simp only[act];cases ha:eh t a with
  |none=>rfl
  |some v=>
   simp only[];rw[sX (pR hp2 ha (fun m e=>by subst e;simp[MO.tm,MO.tmps,O.tmps]))]
 case eM sz x ix=>
  simp only[act];cases ha:eh t x with
  |none=>rfl
  |some v=>
   cases v with
   |row id bA off len=>
    cases hi:iM t ix with
    |none=>rfl
    |some i=>
     simp only[];rw[nw _ o (pR (o:=o) (op:= .eM sz x ix) hp2 ha (fun m e=>by subst e;simp[MO.tm,MO.tmps,O.tmps]) id (by simp[jq]))]
   |sl own s rows=>cases iM t ix<;>rfl
   |_=>cases iM t ix<;>rfl
def jg:List gN→Bool
 |[]=>true
 |m::ms=>m.op.pure&&m.op.qA&&jg ms
theorem kE{cf:bH}{n:Nat}:∀(ms:List gN) (as:List (List Nat)) (i:Nat) (t:List (Nat×V)) (o:List (Nat×Ob)) (acc:List (Nat×ig)),jg ms=true→ms.length≤as.length→(∀p∈acc,p.2.db=[])→
  eC cf n i ms as t o acc=jI cf n i ms t o
 |[],as,i,t,o,acc,_,_,_=>by simp[eC,jI]
 |m::ms,[],i,t,o,acc,_,h,_=>by simp at h
 |m::ms,a::as,i,t,o,acc,hp,hl,ha=>by
  simp only[jg,aj] at hp;have hk:=x7 (cf:=cf) (n:=n+16*i) (d:=m.dst.getD 0) (t:=t) (o:=o) hp.1.1 hp.1.2;simp only[eC,jI,gM];cases hw:wanted t m.guard with
  |none=>rfl
  |some b=>
   have hall:∀e:ig,e.db=[]→acc.all (fun x=>a.contains x.1||e.apart x.2)=true:=by
    intro e he;simp only[List.all_eq_true];intro p hpm;simp[ig.apart,ig.W,he,ha p hpm]
   cases b with
   |false=>
    simp only[];rw[if_pos (hall _ rfl),eu];exact kE ms as (i+1) _ o _ hp.2 (by simp at hl;omega) (fun p h=>by
     rcases List.mem_cons.1 h with rfl|h
     ·rfl
     ·exact ha p h)
   |true=>
    simp only[hk];cases hr:gL cf (n+16*i) (m.dst.getD 0) t o m.op with
    |none=>rfl
    |some r=>
     have hu:r.2=[]:=by
      rw[←hk] at hr;exact xV hp.1.1 hr
     simp only[eX];rw[if_pos (hall _ hu),hu,eu];exact kE ms as (i+1) _ o _ hp.2 (by simp at hl;omega) (fun p h=>by
      rcases List.mem_cons.1 h with rfl|h
      ·first|exact hu|rfl
      ·exact ha p h)
theorem u4{cf:bH}{n:Nat}{ms:List gN}{as:List (List Nat)}{t:List (Nat×V)}{o:List (Nat×Ob)}(h1:jg ms=true)(h2:ms.length≤as.length):eC cf n 0 ms as t o []=jI cf n 0 ms t o:=
 kE ms as 0 t o [] h1 h2 (by simp)
def Bb:List gN→List (List Nat)→Bool
 |[],_=>true
 |_::_,[]=>false
 |m::ms,_::as=>m.op.pure&&(m.op.qA&&Bb ms as)
theorem ou:∀(ms:List gN) (as:List (List Nat)),Bb ms as=true→jg ms=true∧ms.length≤as.length
 |[],as,_=>⟨rfl,by simp⟩
 |m::ms,[],h=>by simp[Bb] at h
 |m::ms,a::as,h=>by
  simp only[Bb,aj] at h;have ih:=ou ms as h.2.2;exact⟨by simp[jg,h.1,h.2.1,ih.1],by simp;exact ih.2⟩
def fF(cf:bH)(n i:Nat)(m:gN)(t:List (Nat×V))(o:List (Nat×Ob)):Option (List (Nat×V)):=match wanted t m.guard with
 |some true=>(gL cf (n+16*i) (m.dst.getD 0) t o m.op).map fun r=>h_ t m.dst r.1
 |some false=>some (h_ t m.dst .undef)
 |none=>none
def mK(cf:bH)(n:Nat):Nat→List gN→List (Nat×V)→List (Nat×Ob)→Option (List (Nat×V)×List (Nat×Ob))
 |_,[],t,o=>some (t,o)
 |i,m::ms,t,o=>match fF cf n i m t o with|some t'=>mK cf n (i+1) ms t' o|none=>none
theorem og{cf:bH}{n:Nat}:∀(ms:List gN) (i:Nat) (t:List (Nat×V)) (o:List (Nat×Ob)),jI cf n i ms t o=mK cf n i ms t o
 |[],i,t,o=>by simp only[jI,mK]
 |m::ms,i,t,o=>by
  simp only[jI,mK,fF];cases hw:wanted t m.guard with
  |none=>rfl
  |some b=>
   cases b with
   |false=>exact og ms _ _ _
   |true=>
    cases hr:gL cf (n+16*i) (m.dst.getD 0) t o m.op with
    |none=>rfl
    |some r=>simp only[eX];exact og ms _ _ _
theorem y4{cf:bH}{n:Nat}{ms:List gN}{as:List (List Nat)}{t:List (Nat×V)}{o:List (Nat×Ob)}(h:Bb ms as=true):eC cf n 0 ms as t o []=mK cf n 0 ms t o:=by
 rw[←og];exact u4 (ou ms as h).1 (ou ms as h).2
def yC(acc:List (Nat×ig)):List (Nat×Nat):=acc.flatMap fun x=>x.2.W.map fun y=>(x.1,y)
def AH(acc:List (Nat×ig)):List (Nat×List Nat):=acc.map fun x=>(x.1,x.2.T)
def Ca(a:List Nat)(T:List Nat)(db:List (Nat×Ob))(ws:List (Nat×Nat))(ts:List (Nat×List Nat)):Bool:=
 ws.all (fun w=> !T.contains w.2||a.contains w.1)&&(db.all fun u=>ts.all (fun x=> !x.2.contains u.1||a.contains x.1)&&ws.all (fun w=> !(u.1==w.2)||a.contains w.1))
def lC(cf:bH)(n:Nat):Nat→List gN→List (List Nat)→List (Nat×V)→List (Nat×Ob)→List (Nat×Nat)→List (Nat×List Nat)→Option (List (Nat×V)×List (Nat×Ob))
 |_,[],_,t,o,_,_=>some (t,o)
 |i,m::ms,a::as,t,o,ws,ts=>
  match gM cf n i m t o with
  |some e=>if Ca a e.T e.db ws ts then lC cf n (i+1) ms as (h_ t e.dst e.v) (e.db++o) (e.db.map (fun u=>(i,u.1))++ws) ((i,e.T)::ts) else none
  |none=>none
 |_,_::_,[],_,_,_,_=>none
theorem AT(a:List Nat)(e:ig)(acc:List (Nat×ig)):acc.all (fun x=>a.contains x.1||e.apart x.2)=Ca a e.T e.db (yC acc) (AH acc):=by
 rw[Bool.eq_iff_iff];simp only[Ca,ig.apart,yC,AH,ig.W,List.all_eq_true,Bool.or_eq_true,aj,Bool.not_eq_true',dX,kV,beq_eq_false_iff_ne];constructor
 ·intro h;refine⟨?_,fun u hu=>⟨?_, ?_⟩⟩
  ·rintro w ⟨x,hx,y,⟨u,hu,rfl⟩,rfl⟩;rcases h x hx with h1|h1
   ·exact .inr h1
   ·exact .inl (h1.2 u.1 ⟨u,hu,rfl⟩)
  ·rintro y ⟨x,hx,rfl⟩;rcases h x hx with h1|h1
   ·exact .inr h1
   ·exact .inl (h1.1 u.1 ⟨u,hu,rfl⟩).1
  ·rintro w ⟨x,hx,y,⟨u',hu',rfl⟩,rfl⟩;rcases h x hx with h1|h1
   ·exact .inr h1
   ·left;have h2:=(h1.1 u.1 ⟨u,hu,rfl⟩).2;rintro e';have h3:List.contains (List.map (fun x=>x.fst) x.2.db) u.1=true:=by
     rw[List.contains_iff_mem,kV];exact⟨u',hu',e'.symm⟩
    rw[h3] at h2;cases h2
 ·rintro ⟨h1,h2⟩ x hx;by_cases ha:a.contains x.1=true
  ·exact .inl ha
  ·right;refine⟨?_, ?_⟩
   ·rintro y ⟨u,hu,rfl⟩;refine⟨?_, ?_⟩
    ·rcases (h2 u hu).1 (x.1,x.2.T) ⟨x,hx,rfl⟩ with h3|h3
     ·exact h3
     ·exact(ha h3).elim
    ·cases hc:List.contains (List.map (fun x=>x.fst) x.2.db) u.1 with
     |false=>rfl
     |true=>
      rw[List.contains_iff_mem,kV] at hc;obtain⟨u',hu',e'⟩:=hc;rcases (h2 u hu).2 (x.1,u'.1) ⟨x,hx,u'.1,⟨u',hu',rfl⟩,rfl⟩ with h3|h3
      ·exact(h3 e'.symm).elim
      ·exact(ha h3).elim
   ·rintro y ⟨u,hu,rfl⟩;rcases h1 (x.1,u.1) ⟨x,hx,u.1,⟨u,hu,rfl⟩,rfl⟩ with h3|h3
    ·exact h3
    ·exact(ha h3).elim
theorem rB{cf:bH}{n:Nat}:∀(ms:List gN) (as:List (List Nat)) (i:Nat) (t:List (Nat×V)) (o:List (Nat×Ob)) (acc:List (Nat×ig)),
  eC cf n i ms as t o acc=lC cf n i ms as t o (yC acc) (AH acc)
 |[],as,i,t,o,acc=>by simp only[eC,lC]
 |m::ms,[],i,t,o,acc=>by simp only[eC,lC]
 |m::ms,a::as,i,t,o,acc=>by
  simp only[eC,lC];cases he:gM cf n i m t o with
  |none=>rfl
  |some e=>
   simp only[AT a e acc];split
   ·rw[rB ms as (i+1)];congr 1;simp[yC,ig.W]
   ·rfl
theorem AS{cf:bH}{n:Nat}{ms:List gN}{as:List (List Nat)}{t:List (Nat×V)}{o:List (Nat×Ob)}:eC cf n 0 ms as t o []=lC cf n 0 ms as t o [] []:=rB ms as 0 t o []
section
variable {cf:bH} {n d:Nat} {t:List (Nat×V)} {o:List (Nat×Ob)}
theorem v9{f:Nat}{as:List O}{l:List Nat}{h:List (Nat×Nat)}:gL cf n d t o (.call f as l h)=act cf n d t (keep (eU t o (.call f as l h)) o) (.call f as l h):=rfl
theorem Aa(x:O):gL cf n d t o (.mv x)=act cf n d t o (.mv x):=rfl
theorem vZ(c a b:O):gL cf n d t o (.pick c a b)=act cf n d t o (.pick c a b):=rfl
theorem v7(agg:Bool)(k:Nat)(a:O):gL cf n d t o (.load agg k a)=act cf n d t o (.load agg k a):=rfl
theorem ym(neg:Bool)(x y:O):gL cf n d t o (.beq neg x y)=act cf n d t o (.beq neg x y):=rfl
theorem yk(op:BinOp)(x y:O):gL cf n d t o (.bin op x y)=act cf n d t o (.bin op x y):=rfl
theorem yj(neg:Bool)(ks:List Kc)(x y:O):gL cf n d t o (.eqs neg ks x y)=act cf n d t o (.eqs neg ks x y):=rfl
theorem ya(x:O):gL cf n d t o (.not x)=act cf n d t o (.not x):=rfl
theorem yb(x:O):gL cf n d t o (.neg x)=act cf n d t o (.neg x):=rfl
theorem yg(k:IntKind)(x:O):gL cf n d t o (.qL k x)=act cf n d t o (.qL k x):=rfl
theorem vX(x:O)(lo hi:Option O):gL cf n d t o (.ll x lo hi)=act cf n d t o (.ll x lo hi):=rfl
theorem tK(off:Nat)(a:O):gL cf n d t o (.cS off a)=act cf n d t o (.cS off a):=rfl
theorem tJ(sz:Nat)(x ix:O):gL cf n d t o (.eM sz x ix)=act cf n d t o (.eM sz x ix):=rfl
theorem yf(x ix:O):gL cf n d t o (.idx x ix)=act cf n d t o (.idx x ix):=rfl
theorem yh(agg:Bool)(off k:Nat)(x:O):gL cf n d t o (.yz agg off k x)=act cf n d t o (.yz agg off k x):=rfl
theorem yi(i:Nat)(x:O):gL cf n d t o (.ext i x)=act cf n d t o (.ext i x):=rfl
theorem ye(x:O):gL cf n d t o (.len x)=act cf n d t o (.len x):=rfl
theorem vY(x:O):gL cf n d t o (.gJ x)=act cf n d t o (.gJ x):=rfl
theorem yd(x y:O):gL cf n d t o (.max x y)=act cf n d t o (.max x y):=rfl
theorem yc(x y:O):gL cf n d t o (.min x y)=act cf n d t o (.min x y):=rfl
end
attribute [simp high] y4
attribute [simp low] AS
attribute [simp] v9 Aa vZ v7 ym yk yj ya yb yg vX tK tJ yf yh yi ye vY yd yc
attribute [simp] fF mK lC Ca Bb MO.pure MO.qA O.plain gM eU MO.tm MO.tmps O.tmps ia jq iz ig.apart ig.W
end Mx
namespace Mx
open Go
def bh.b:C:= .seq (.ay [Qb 6 false] [0,1,2] [])
 (.seq (.ay [Qm 7 0,Qm 8 1,Q 9 (.bin .geq (.t 7) (.t 8)),Qm 10 9,Qg 11 (.mv (.t 0)) 10 true,Qg 12 (.mv (.t 2)) 10 true,Qg 13 (.bin .leq (.t 11) (.t 12)) 10 true,
   Q 14 (.pick (.t 10) (.t 13) (kB false)),Qm 6 14] [6] [])
 (.ret))
def bh.m:Fn:={np:=3,body:=bh.b,res:=[.tmp 6]}
def bh.k(M:Nat→Option Body):Prop:=M 98=some (.code bh.m)
end Mx
namespace Mx
open Go Go.RowKit
def x0(F:Nat→FuncId)(w:World):Cx:={w:=w,U:=fun _=>False,E:=fun _=>none,F:=F}
theorem uZ{P:Program}{F:Nat→FuncId}{M:Nat→Option Body}(hM:lk P F M){f:Nat}{as:List V}{b:Bool}(h:run M f as []=some (.c (.bool b),[])){vals:Array Value}{w:World}
  (hG:tL F (fun _=>False) w) (hn:as.length=vals.size) (hr:∀(i:Nat) (v:V) (x:Value),as[i]? =some v→vals[i]? =some x→eK (x0 F w) v x):
  Calls P (F f) vals w fun e W'=>e= .returned (.bool b)∧Below w.heap.size w W':=by
 obtain⟨_,hc⟩:=AQ hM f as [] _ _ h;have K:fT (x0 F w) (cx F (fun _=>False) (fun _=>none) [] w):=by
  refine⟨rfl,fun v l h=>(by cases h),fun ad v _ hcell=>⟨hcell, ?_⟩⟩;rintro (⟨id,ob,cap,sz,g1,_⟩|h)
  ·simp[get] at g1
  ·exact h
 have En:Entry F (fun _=>False) (fun _=>none) as [] vals w:=
  ⟨hn,fun i v x h1 h2=>(hr i v x h1 h2).mono K,fun p ob h=>(by simp[get] at h),fun p ob b cap sz h=>(by simp[get] at h),fun p p2 ob ob2 b cap sz cap2 sz2 h=>(by simp[get] at h),fun v l h=>(by cases h),⟨fun b h=>h.elim,hG.imp id fun g=>⟨g.1,fun⟨p,ob,cap,sz,h1,_⟩=>by simp[get] at h1,g.2.2⟩⟩⟩
 refine(hc (fun _=>False) (fun _=>none) vals w En).mono ?_;rintro e w' ⟨val,E',own,rfl,B⟩;have hres:=B.res;have hv:val= .bool b:=by
  simp only[Ae,qS] at hres;cases hres with|bool b=>rfl
 refine⟨by rw[hv],B.os,B.tape,B.output,B.size,fun k hk=>B.frame k hk ?_⟩;rintro ⟨p,ob,cap,sz,h1,_⟩;simp[get] at h1
end Mx
namespace Mx
open Go
inductive Ct where
 |int (k:IntKind)
 |bool
 |str
 |sl (row:List Ct)
inductive Has:Ct→T→Prop
 |int (k:IntKind) (n:Int) (h:(Lit.int k n).wf=true):Has (.int k) (.int k n)
 |bool (b:Bool):Has .bool (.bool b)
 |str (s:ByteArray) (h:s.size≤maxLen):Has .str (.str s)
 |sl (row:List Ct) (rows:List (List T)) (hl:rows.length≤maxLen) (h:∀(i:Nat) (r:List T),rows[i]? =some r→r.length=row.length)
   (h2:∀(i j:Nat) (r:List T) (c:Ct) (t:T),rows[i]? =some r→row[j]? =some c→r[j]? =some t→Has c t):Has (.sl row) (.sl false row.length rows)
def nQ(cs:List Ct)(ts:List T):Prop:=ts.length=cs.length∧∀(j:Nat) (c:Ct) (t:T),cs[j]? =some c→ts[j]? =some t→Has c t
mutual
def qD(P:Program):Nat→Ct→TypeId→Bool
 |0,_,_=>false
 |_+1,.int k,t=>oG P t k
 |_+1,.bool,t=>nT P t
 |_+1,.str,t=>kJ P t
 |f+1,.sl row,t=>match dO P t with|some e=>ov P f row e&&(P.cellsOf e==row.length)|none=>false
def ov(P:Program):Nat→List Ct→TypeId→Bool
 |0,_,_=>false
 |f+1,cs,t=>match iV P t with
  |some fs=>(P.cellsOf t==cs.length)&&ji P f 0 cs fs.toList
  |none=>match cs with|[c]=>qD P f c t|_=>false
def ji(P:Program):Nat→Nat→List Ct→List Field→Bool
 |0,_,_,_=>false
 |_+1,_,cs,[]=>cs.isEmpty
 |f+1,off,cs,fd::fs=>(fd.offset==off)&&decide (P.cellsOf fd.type≤cs.length)&&ov P f (cs.take (P.cellsOf fd.type)) fd.type&&ji P f (off+P.cellsOf fd.type) (cs.drop (P.cellsOf fd.type)) fs
end
variable {P:Program} {F:Nat→FuncId} {w:World} {H:Type} {enc:TypeId×Value→H} {base:Nat} {sp:Nat→Bool} {held:Bool}
theorem nQ.one{c:Ct}{t:T}(h:Has c t):nQ [c] [t]:=⟨rfl,fun j c' t' h1 h2=>by
 cases j with
 |zero=>simp at h1 h2;subst h1 h2;exact h
 |succ j=>simp at h1⟩
theorem nQ.append{cs ds:List Ct}{ts us:List T}(h:nQ cs ts)(k:nQ ds us):nQ (cs++ds) (ts++us):=by
 refine⟨by simp[h.1,k.1],fun j c t h1 h2=> ?_⟩;rw[cK] at h1 h2;rw[h.1] at h2;split at h1
 ·rename_i hj;rw[if_pos hj] at h2;exact h.2 j c t h1 h2
 ·rename_i hj;rw[if_neg hj] at h2;exact k.2 _ c t h1 h2
theorem pE:∀(f:Nat),
  (∀(c:Ct) (t:TypeId) (vs:List Value) (fuel:Nat) (x:DataW H×List MemPlace),qD P f c t=true→DataW.trod enc P w base sp held fuel t vs=some x→∃u v,vs=[v]∧Has c u∧eo (x0 F w) u v)∧
  (∀(cs:List Ct) (t:TypeId) (vs:List Value) (fuel:Nat) (x:DataW H×List MemPlace),ov P f cs t=true→DataW.trod enc P w base sp held fuel t vs=some x→∃ts,nQ cs ts∧dA (x0 F w) ts vs)∧
  (∀(off:Nat) (cs:List Ct) (fs:List Field) (vs:List Value),ji P f off cs fs=true→vs.length=off+cs.length→
   (∀fd∈fs,∃n x,DataW.trod enc P w base sp held n fd.type ((vs.drop fd.offset).take (P.cellsOf fd.type))=some (x:DataW H×List MemPlace))→∃ts,nQ cs ts∧dA (x0 F w) ts (vs.drop off)):=by
 intro f
 induction f with
 |zero=>exact⟨fun c t vs fuel x h=>by simp[qD] at h,fun cs t vs fuel x h=>by simp[ov] at h,fun off cs fs vs h=>by simp[ji] at h⟩
 |succ f ih=>
  obtain⟨ih1,ih2,ih3⟩:=ih;have A:∀(c:Ct) (t:TypeId) (vs:List Value) (fuel:Nat) (x:DataW H×List MemPlace),qD P (f+1) c t=true→DataW.trod enc P w base sp held fuel t vs=some x→∃u v,vs=[v]∧Has c u∧eo (x0 F w) u v:=by
   intro c t vs fuel x hok h;cases fuel with
   |zero=>simp[DataW.trod] at h
   |succ n=>
    cases c with
    |int k=>
     have hu:=nS hok;unfold DataW.trod at h;rw[hu] at h;split at h<;>simp_all
     rename_i k' m;obtain⟨⟨rfl,hwf⟩,_⟩:=h;exact⟨_,.int _ _ hwf,.int _ _⟩
    |bool=>
     have hu:=oH hok;unfold DataW.trod at h;rw[hu] at h;split at h<;>simp_all
     exact⟨_,.bool _,.bool _⟩
    |str=>
     have hu:=k_ hok;unfold DataW.trod at h;rw[hu] at h;split at h<;>simp_all
     exact⟨_,.str _ h.1,.str _⟩
    |sl row=>
     simp only[qD] at hok;split at hok
     ·rename_i e he;simp only[aj,beq_iff_eq] at hok;rcases Go.Deep.open_slice (eF he) h with⟨rfl,_⟩|⟨a,len,cap,m,n',D,Pl,rfl,hb,hl,hm,hmm,_,hx⟩
      ·exact⟨.sl false row.length [],_,rfl,.sl row [] (by simp) (fun i r h=>by simp at h) (fun i j r c t h=>by simp at h),eo.empty _ _ _ _⟩
      ·have hlm:len≤m:=by rw[hmm];split<;>omega
       have each:∀i,i<len→∃r cs',nQ row r∧dA (x0 F w) r cs'∧∀q,q<row.length→w.cell? ((a.add (i*row.length)).add q)=cs'[q]? :=by
        intro i hi;obtain⟨cs',h1,h2⟩:=hx i (by omega);obtain⟨r,h3,h4⟩:=ih2 row e cs' n' _ hok.1 h2;obtain⟨_,h5,h6⟩:=World.cells?_some h1;rw[hok.2] at h6;exact⟨r,cs',h3,h4,h6⟩
       have hrows:∀k,k≤len→∃rows:List (List T),rows.length=k∧∀i r,rows[i]? =some r→∃cs',nQ row r∧dA (x0 F w) r cs'∧∀q,q<row.length→w.cell? ((a.add (i*row.length)).add q)=cs'[q]? :=by
        intro k
        induction k with
        |zero=>intro _;exact⟨[],rfl,fun i r h=>by simp at h⟩
        |succ k ihl=>
         intro hk;obtain⟨rows,h1,h2⟩:=ihl (by omega);obtain⟨r,cs',h3,h4,h5⟩:=each k (by omega);refine⟨rows++[r],by simp[h1],fun i r' hr=> ?_⟩;rw[cK] at hr;split at hr
         ·exact h2 i r' hr
         ·rename_i hge;have:i-rows.length=0:=by
           rcases Nat.eq_zero_or_pos (i-rows.length) with q|q
           ·exact q
           ·rw[fj (by simp;omega)] at hr;cases hr
          rw[this] at hr;simp at hr;subst hr;have:i=k:=by omega
          subst this;exact⟨cs',h3,h4,h5⟩
       obtain⟨rows,hlen,hrow⟩:=hrows len (Nat.le_refl _);have key:∀(i j:Nat) (r:List T) (t:T),rows[i]? =some r→r[j]? =some t→∃v,w.cell? (a.add (i*row.length+j))=some v∧eo (x0 F w) t v:=by
        intro i j r t hi hj;obtain⟨cs',h3,h4,h5⟩:=hrow i r hi;have hjl:j<r.length:=(List.getElem?_eq_some_iff.1 hj).1;have h6:=h5 j (by rw[←h3.1];exact hjl);have hjc:j<cs'.length:=by rw[←h4.1];exact hjl
        rw[add_add] at h6;refine⟨cs'[j],by rw[h6];simp[hjc],h4.2 j t cs'[j] hj (by simp[hjc])⟩
       have hcl:∀(c:Ct) (t:T),Has c t→cO t:=by
        intro c t h
        induction h with
        |int=>exact .int _ _
        |bool=>exact .bool _
        |str=>exact .str _
        |sl row rows hl h h2 ih=>
         refine .sl _ _ _ fun i j r t hr ht=> ?_
         have hj:j<row.length:=by rw[←h i r hr];exact(List.getElem?_eq_some_iff.1 ht).1
         exact ih i j r row[j] t hr (by simp[hj]) ht
       refine⟨.sl false row.length rows,_,rfl,.sl row rows (by omega) (fun i r hr=>(hrow i r hr).choose_spec.1.1) (fun i j r c t hr hc ht=>(hrow i r hr).choose_spec.1.2 j c t hc ht), ?_⟩;have:=eo.sl (X:=x0 F w) false row.length rows (some a) cap (fun i j=>(w.cell? (a.add (i*row.length+j))).getD undef) (by omega) (fun i r hr=>(hrow i r hr).choose_spec.1.1)
        (fun i j r t hr ht=>by obtain⟨v,h1,_⟩:=key i j r t hr ht;exact⟨a,rfl,fun h=>h,by show w.cell? _=_;rw[h1];rfl⟩)
        (fun i j r t hr ht=>by obtain⟨v,h1,h2⟩:=key i j r t hr ht;rw[h1];exact h2)
        (fun i j r t hr ht=>by
         obtain⟨cs',h3,_⟩:=hrow i r hr;have hj:j<row.length:=by rw[←h3.1];exact(List.getElem?_eq_some_iff.1 ht).1
         exact hcl _ _ (h3.2 j row[j] t (by simp[hj]) ht))
       rw[hlen] at this;exact this
     ·cases hok
  refine⟨A, ?_, ?_⟩
  ·intro cs t vs fuel x hok h;simp only[ov] at hok;split at hok
   ·rename_i fs hfs;simp only[aj,beq_iff_eq] at hok;obtain⟨xs,n,_,_,hlen,hxl,hxs⟩:=DataW.trod_struct (je hfs) h;obtain⟨ts,h1,h2⟩:=ih3 0 cs fs.toList vs hok.2 (by omega) (fun fd hfd=>by
     obtain⟨i,hi⟩:=List.getElem?_of_mem hfd;have hi':fs[i]? =some fd:=by simpa using hi
     have:=hxs i fd hi';have hlt:i<xs.length:=by rw[hxl];exact(Array.getElem?_eq_some_iff.1 hi').1
     exact⟨n,xs[i],by rw[this];simp[hlt]⟩)
    exact⟨ts,h1,by simpa using h2⟩
   ·split at hok
    ·rename_i c;obtain⟨u,v,rfl,h1,h2⟩:=ih1 c t vs fuel x hok h;exact⟨[u],.one h1,.cons h2 (.nil _)⟩
    ·cases hok
  ·intro off cs fs vs hok hlen hfd;cases fs with
   |nil=>
    simp only[ji,List.isEmpty_iff] at hok;subst hok;refine⟨[],⟨rfl,fun j c t h=>by simp at h⟩, ?_⟩;rw[dQ (by simp at hlen;omega)];exact .nil _
   |cons fd fs=>
    simp only[ji,aj,beq_iff_eq,decide_eq_true_eq] at hok;obtain⟨⟨⟨h1,hk⟩,h2⟩,h3⟩:=hok;obtain⟨n,x,hx⟩:=hfd fd (dB ..);obtain⟨ts1,k1,k2⟩:=ih2 _ _ _ _ _ h2 hx;have hl1:=k1.1;have hl2:=k2.1;rw[h1] at k2 hl2;obtain⟨ts2,m1,m2⟩:=ih3 (off+P.cellsOf fd.type) (cs.drop (P.cellsOf fd.type)) fs vs h3 (by simp;omega) (fun fd' h=>hfd fd' (df _ h));refine⟨ts1++ts2, ?_, ?_⟩
    ·have:=k1.append m1
     rwa [dE] at this
    ·have:=k2.append m2;rw[←List.drop_drop,dE] at this;exact this
theorem tE{f:Nat}{cs:List Ct}{t:TypeId}{fs:Array Field}{v:Value}{d:DataW H}{ps:List MemPlace}{r:Reach}{b:Nat}{w':World}(hs:iV P t=some fs)(hok:ov P f cs t=true)
  (hv:Value.okWide P w' r b t v) (h:DataW.Trod enc P w base sp held t v d ps):∃ts,nQ cs ts∧eK (x0 F w) (.a ts) v:=by
 obtain⟨fuel,h⟩:=h;obtain⟨ts,h1,h2⟩:=(pE (F:=F) f).2.1 cs t _ fuel _ hok h;unfold Value.okWide at hv;rw[je hs] at hv;obtain⟨vs,rfl,_⟩:=hv;refine⟨ts,h1, ?_⟩;have:=eK.Bc h2;simpa [Value.cells] using this
theorem vD{v u:Value}(h:v.cells.toList=[u])(hn:∀cs,v≠.agg cs):v=u:=by
 cases v with
 |agg cs=>exact(hn cs rfl).elim
 |_=>simp[Value.cells] at h;exact h
theorem xN{f:Nat}{c:Ct}{t:TypeId}{v:Value}{d:DataW H}{ps:List MemPlace}{r:Reach}{b:Nat}{w':World}(hok:qD P f c t=true)
  (hv:Value.okWide P w' r b t v) (h:DataW.Trod enc P w base sp held t v d ps):∃u,Has c u∧eo (x0 F w) u v:=by
 obtain⟨fuel,h⟩:=h;obtain⟨u,x,h0,h1,h2⟩:=(pE (F:=F) f).1 c t _ fuel _ hok h;have:v=x:=by
  refine vD h0 fun cs e=> ?_
  subst e;cases f with
  |zero=>simp[qD] at hok
  |succ f=>
   cases c with
   |int k=>simp[Value.okWide,Cell.okWide,nS hok,Cell.ok] at hv
   |bool=>simp[Value.okWide,Cell.okWide,oH hok,Cell.ok] at hv
   |str=>simp[Value.okWide,Cell.okWide,k_ hok,Cell.ok] at hv
   |sl row=>
    simp only[qD] at hok;split at hok
    ·rename_i e he;simp[Value.okWide,Cell.okWide,eF he,Cell.ok] at hv
    ·cases hok
 rw[this];exact⟨u,h1,h2⟩
end Mx
namespace Mx
open Go Go.RowKit Go.ChangeShapes
inductive Ak where
 |cell (c:Ct)
 |struct (cs:List Ct)
inductive Af:Ak→V→Prop
 |cell {c:Ct} {u:T} (h:Has c u):Af (.cell c) (.c u)
 |struct {cs:List Ct} {ts:List T} (h:nQ cs ts):Af (.struct cs) (.a ts)
inductive qi:List Ak→List V→Prop
 |nil:qi [] []
 |cons {k:Ak} {v:V} {ks:List Ak} {vs:List V} (h:Af k v) (hs:qi ks vs):qi (k::ks) (v::vs)
def rK(P:Program)(f:Nat):Ak→TypeId→Bool
 | .cell c,t=>qD P f c t&&P.readableRec t&&decide (t<P.types.size)
 | .struct cs,t=>(iV P t).isSome&&ov P f cs t&&P.readableRec t&&decide (t<P.types.size)
def mQ(P:Program)(f:Nat):List Ak→List TypeId→Bool
 |[],[]=>true
 |k::ks,t::ts=>rK P f k t&&mQ P f ks ts
 |_,_=>false
variable {P:Program} {F:Nat→FuncId} {w:World} {H:Type} {enc:TypeId×Value→H}
theorem s_{f:Nat}{k:Ak}{t:TypeId}(h:rK P f k t=true):P.readableRec t=true∧t<P.types.size:=by
 cases k<;>simp only[rK,aj,decide_eq_true_eq] at h
 ·exact⟨h.1.2,h.2⟩
 ·exact⟨h.1.2,h.2⟩
theorem tD{f:Nat}{w':World}{r:Reach}{b:Nat}{base:Nat}{sp:Nat→Bool}{held:Bool}:∀(ks:List Ak) (ts:List TypeId) (vs:List Value) (ds:List (DataW H)) (ps:List MemPlace),mQ P f ks ts=true→
  DataW.TrodAll enc P w base sp held ts vs ds ps→(∀(j:Nat) t v,ts[j]? =some t→vs[j]? =some v→Value.okWide P w' r b t v)→
  ∃as,qi ks as∧as.length=vs.length∧ds.length=ks.length∧∀(i:Nat) (v:V) (x:Value),as[i]? =some v→vs[i]? =some x→eK (x0 F w) v x:=by
 intro ks
 induction ks with
 |nil=>
  intro ts vs ds ps hok h _;cases ts with
  |cons=>cases hok
  |nil=>
   obtain⟨rfl,rfl,_⟩:=trodAll_nil h;exact⟨[],.nil,rfl,rfl,fun i v x h=>by simp at h⟩
 |cons k ks ih=>
  intro ts vs ds ps hok h hv;cases ts with
  |nil=>cases hok
  |cons t ts=>
   simp only[mQ,aj] at hok;obtain⟨v,vs',d,ds',p,q,rfl,rfl,rfl,h1,h2⟩:=trodAll_cons h;obtain⟨as,g1,g2,g3,g4⟩:=ih ts vs' ds' q hok.2 h2 (fun j t v h1 h2=>hv (j+1) t v (by simpa using h1) (by simpa using h2));have hv0:=hv 0 t v rfl rfl;have hk:∃a,Af k a∧eK (x0 F w) a v:=by
    cases k with
    |cell c=>
     have ho:=hok.1;simp only[rK,aj] at ho;obtain⟨u,k1,k2⟩:=xN (F:=F) ho.1.1 hv0 h1;exact⟨.c u,.cell k1,.c _ _ k2⟩
    |struct cs=>
     have ho:=hok.1;simp only[rK,aj] at ho;obtain⟨fs,hfs⟩:=Option.isSome_iff_exists.1 ho.1.1.1;obtain⟨ts',k1,k2⟩:=tE (F:=F) hfs ho.1.1.2 hv0 h1;exact⟨.a ts',.struct k1,k2⟩
   obtain⟨a,k1,k2⟩:=hk;refine⟨a::as,.cons k1 g1,by simp[g2],by simp[g3],fun i v' x h1 h2=> ?_⟩;cases i with
   |zero=>simp at h1 h2;subst h1 h2;exact k2
   |succ i=>exact g4 i v' x (by simpa using h1) (by simpa using h2)
theorem sG{f:Nat}(hl:laidOutB P=true){W':World}(hb:Below w.heap.size w W'):∀(ks:List Ak) (ts:List TypeId) (vs:List Value) (ds:List (DataW H)) (ps:List MemPlace),mQ P f ks ts=true→
  DataW.TrodAll enc P w 0 (fun _=>true) true ts vs ds ps→(∀x∈ps,x.block<w.heap.size)→DataW.TrodAll enc P W' 0 (fun b=>decide (b<w.heap.size)) true ts vs ds ps:=by
 intro ks
 induction ks with
 |nil=>
  intro ts vs ds ps hok h _;cases ts with
  |cons=>cases hok
  |nil=>
   obtain⟨rfl,rfl,rfl⟩:=trodAll_nil h;exact trodAll_mk0
 |cons k ks ih=>
  intro ts vs ds ps hok h hlt;cases ts with
  |nil=>cases hok
  |cons t ts=>
   simp only[mQ,aj] at hok;obtain⟨v,vs',d,ds',p,q,rfl,rfl,rfl,h1,h2⟩:=trodAll_cons h;obtain⟨r1,r2⟩:=s_ hok.1;exact trodAll_cons_mk (Below.trod hl r1 r2 h1 hb (fun x hx=>hlt x (List.mem_append_left _ hx))) (ih ts vs' ds' q hok.2 h2 (fun x hx=>hlt x (List.mem_append_right _ hx)))
theorem w9{C:Checked}{M:Nat→Option Body}{os:Os}{fn:Func}{s:ChangeSpec}{conds:List PathCond}{rt:TypeId}(hM:lk C.prog F M)(law f:Nat)(ks:List Ak)(own:ownKnob C.prog.godebug=none)(started:os.Started)
  (noInit:C.prog.inits.idxOf? (F law)=none) (hfn:C.prog.funcs[F law]? =some fn)
  (witness:∃(w:World) (tape:Tape) (i:Input),w.os=os∧(w.forCall tape i).Shaped C.prog∧i.vars=[]∧Input.okWide C.prog (w.forCall tape i) .any w.heap.size (F law) i∧
   s.pre6 enc C.prog fn conds false (w.forCall tape i).memory i.args∧({}:Assume).holds C.prog (lone (Frame.enter C.prog (F law) i.args .normal) [] (w.forCall tape i)))
  (hl:laidOutB C.prog=true) (hargs:mQ C.prog f ks fn.params.toList=true) (hres:fn.resultTypes= #[rt]) (hrt:C.prog.underlying rt=some .bool) (hvars:s.vars=[])
  (hspec:∀ds:List (DataW H),ds.length=ks.length→s.fn H (ds++[])={results:=[.lit (.bool true)],args:=ds})
  (hrun:∀as,qi ks as→run M law as []=some (.c (.bool true),[])) (hG:F 999998=0:=by kernel_rfl):
  ReturnsInHanded {} C os (F law) .any (s.pre6 enc C.prog fn conds false) (s.post enc C.prog fn false true false false):=by
 refine returnsInHanded_of_change_sized (C:=C) own started noInit hfn witness ?_;intro W base args ds gs before hval hW _ _ _;have hW':=hW;obtain⟨p,q,hA,hV,rfl,_,_⟩:=hW;have hlt:∀x∈p,x.block<W.heap.size:=fun x hx=>hW'.lt x (List.mem_append_left _ hx)
 rw[hvars] at hV;obtain⟨rfl,rfl⟩:=trodVars_none hV;obtain⟨as,h1,h2,h3,h4⟩:=tD (F:=F) ks _ _ ds p hargs hA (fun j t v k1 k2=>hval j t v (by simpa using k1) (by simpa using k2));refine(uZ hM (f:=law) (b:=true) (hrun as h1) (.inl hG) (vals:=args) (w:=W) (by simpa using h2) (fun i v x k1 k2=>h4 i v x k1 (by simpa using k2))).mono fun e W' ⟨he,bel⟩=> ?_
 subst he;have hb:=sG hl bel ks _ _ ds p hargs hA hlt;refine⟨_,rfl,ds,[],p++[],[],p,[],hW', ?_, ?_, ?_,bel.frame _,fun h=>by cases h⟩
 ·rw[hspec ds h3,hres];exact trodAll_mk1 (shut_bool hrt _)
 ·rw[hspec ds h3];exact hb
 ·rw[hspec ds h3,hvars];rfl
def AI(tab:List (Nat×Fn))(f:Nat):Option Body:=(get tab f).map .code
def Co(num:List (Nat×Nat))(f:Nat):FuncId:=(get num f).getD 0
theorem sK{P:Program}{F:Nat→FuncId}{tab:List (Nat×Fn)}(h:∀p∈tab,a7 P F p.1 p.2=true):lk P F (AI tab):=by
 intro f;unfold AI;cases hg:get tab f with
 |none=>simp
 |some b=>exact h _ (get_mem hg)
end Mx
namespace Mx
open Go
def rz.g:List T→Option T
 |[.str s,.int .i32 r]=>if 0≤r∧r<128 then some (.bool (decide (0≤Lib.indexByte s.data.toList r.toNat.toUInt8))) else none
 |_=>none
def bw.l0:C:= .seq (.seq (.ay [Qm 5 3,Qm 6 0,Q 7 (.gJ (.t 6)),Q 8 (.bin .lss (.t 5) (.t 7))] [0,3,8] [])
 (.cond (.t 8) (.skip) (.exit 0)))
 (.seq (.block 1 (.seq (.ay [Qm 11 0,Qm 12 3,Q 13 (.idx (.t 11) (.t 12)),Qm 4 13] [0,3,4] [])
 (.seq (.ay [Qm 14 4,Q 15 (.bin .lss (.t 14) (.k (.int .u8 33))),Qm 16 15,Qg 17 (.mv (.t 4)) 16 false,Qg 18 (.bin .gtr (.t 17) (.k (.int .u8 126))) 16 false,
   Q 19 (.pick (.t 16) (kB true) (.t 18)),Qm 20 19,Qg 21 (.mv (.t 4)) 20 false,Qg 22 (.bin .eql (.t 21) (.k (.int .u8 34))) 20 false,Q 23 (.pick (.t 20) (kB true) (.t 22)),
   Qm 24 23,Qg 25 (.mv (.t 4)) 24 false,Qg 26 (.bin .eql (.t 25) (.k (.int .u8 40))) 24 false,Q 27 (.pick (.t 24) (kB true) (.t 26)),Qm 28 27,Qg 29 (.mv (.t 4)) 28 false,
   Qg 30 (.bin .eql (.t 29) (.k (.int .u8 41))) 28 false,Q 31 (.pick (.t 28) (kB true) (.t 30)),Qm 32 31,Qg 33 (.mv (.t 4)) 32 false,
   Qg 34 (.bin .eql (.t 33) (.k (.int .u8 123))) 32 false,Q 35 (.pick (.t 32) (kB true) (.t 34)),Qm 36 35,Qg 37 (.mv (.t 4)) 36 false,
   Qg 38 (.bin .eql (.t 37) (.k (.int .u8 125))) 36 false,Q 39 (.pick (.t 36) (kB true) (.t 38)),Qm 40 39,Qg 41 (.mv (.t 4)) 40 false,
   Qg 42 (.bin .eql (.t 41) (.k (.int .u8 92))) 40 false,Q 43 (.pick (.t 40) (kB true) (.t 42))] [0,3,43] [])
 (.cond (.t 43) (.seq (.ay [Qb 2 false] [2] [])
 (.ret)) (.skip)))))
 (.ay [Qm 9 3,Q 10 (.bin .add (.t 9) (kI 1)),Qm 3 10] [0,3] []))
def bw.b:C:= .seq (.ay [Qb 2 false] [0] [])
 (.seq (.seq (.ay [Qi 3 0] [0,3] [])
 (.block 0 (.loop bw.l0)))
 (.seq (.ay [Qm 44 0,Q 45 (.gJ (.t 44)),Q 46 (.call 98 [.t 45,kI 1,kI 40] [] []),Qm 2 46] [2] [])
 (.ret)))
def bw.m:Fn:={np:=1,body:=bw.b,res:=[.tmp 2]}
def bw.k(M:Nat→Option Body):Prop:=M 325=some (.code bw.m)∧bh.k M
def a_.l0:C:= .seq (.seq (.ay [Qm 6 5,Qm 7 0,Q 8 (.gJ (.t 7)),Q 9 (.bin .lss (.t 6) (.t 8))] [0,4,5,9] [])
 (.cond (.t 9) (.skip) (.exit 0)))
 (.seq (.block 1 (.seq (.seq (.ay [Qm 12 0,Qm 13 5,Q 14 (.idx (.t 12) (.t 13)),Q 15 (.bin .lss (.t 14) (.k (.int .u8 32))),Qm 16 15,Qg 17 (.mv (.t 0)) 16 false,Qg 18 (.mv (.t 5)) 16 false,
   Qg 19 (.idx (.t 17) (.t 18)) 16 false,Qg 20 (.bin .gtr (.t 19) (.k (.int .u8 126))) 16 false,Q 21 (.pick (.t 16) (kB true) (.t 20))] [0,4,5,21] [])
 (.cond (.t 21) (.seq (.ay [Q 2 (.mv (.k (.str ⟨#[]⟩))),Qb 3 false] [2,3] [])
 (.ret)) (.skip)))
 (.seq (.seq (.ay [Qm 22 0,Qm 23 5,Q 24 (.idx (.t 22) (.t 23)),Q 25 (.bin .eql (.t 24) (.k (.int .u8 34))),Qm 26 25,Qg 27 (.mv (.t 0)) 26 false,Qg 28 (.mv (.t 5)) 26 false,
   Qg 29 (.idx (.t 27) (.t 28)) 26 false,Qg 30 (.bin .eql (.t 29) (.k (.int .u8 92))) 26 false,Q 31 (.pick (.t 26) (kB true) (.t 30))] [0,4,5,31] [])
 (.cond (.t 31) (.ay [Qm 32 4,Q 33 (.bin .add (.t 32) (.k (.str ⟨#[92]⟩))),Qm 4 33] [0,4,5] []) (.skip)))
 (.ay [Qm 34 4,Qm 35 0,Qm 36 5,Qm 37 5,Q 38 (.bin .add (.t 37) (kI 1)),Q 39 (.ll (.t 35) (some (.t 36)) (some (.t 38))),Q 40 (.bin .add (.t 34) (.t 39)),Qm 4 40] [0,4,5] []))))
 (.ay [Qm 10 5,Q 11 (.bin .add (.t 10) (kI 1)),Qm 5 11] [0,4,5] []))
def a_.b:C:= .seq (.ay [Q 2 (.mv (.k (.str ⟨#[]⟩))),Qb 3 false] [0] [])
 (.seq (.ay [Q 4 (.mv (.k (.str ⟨#[34]⟩)))] [0,4] [])
 (.seq (.seq (.ay [Qi 5 0] [0,4,5] [])
 (.block 0 (.loop a_.l0)))
 (.seq (.seq (.ay [Qm 41 0,Q 42 (.gJ (.t 41)),Q 43 (.bin .gtr (.t 42) (kI 60))] [4,43] [])
 (.cond (.t 43) (.seq (.ay [Q 2 (.mv (.k (.str ⟨#[]⟩))),Qb 3 false] [2,3] [])
 (.ret)) (.skip)))
 (.seq (.ay [Qm 44 4,Q 45 (.bin .add (.t 44) (.k (.str ⟨#[34]⟩))),Qm 2 45,Qb 3 true] [2,3] [])
 (.ret)))))
def a_.m:Fn:={np:=1,body:=a_.b,res:=[.tmp 2,.tmp 3]}
def a_.k(M:Nat→Option Body):Prop:=M 319=some (.code a_.m)
def dg.b:C:= .seq (.ay [Q 2 (.mv (.k (.int .u8 0)))] [0] [])
 (.seq (.seq (.ay [Qm 3 0,Q 4 (.bin .lss (.t 3) (kI 10))] [0,4] [])
 (.cond (.t 4) (.seq (.ay [Qm 5 0,Q 6 (.bin .add (kI 48) (.t 5)),Q 7 (.qL .u8 (.t 6)),Qm 2 7] [2] [])
 (.ret)) (.skip)))
 (.seq (.ay [Qm 8 0,Q 9 (.bin .add (kI 97) (.t 8)),Q 10 (.bin .sub (.t 9) (kI 10)),Q 11 (.qL .u8 (.t 10)),Qm 2 11] [2] [])
 (.ret)))
def dg.m:Fn:={np:=1,body:=dg.b,res:=[.tmp 2]}
def dg.k(M:Nat→Option Body):Prop:=M 247=some (.code dg.m)
def a0.l0:C:= .seq (.seq (.ay [Qm 10 0,Q 11 (.bin .neq (.t 10) (kI 0))] [0,3,4,11] [])
 (.cond (.t 11) (.skip) (.exit 0)))
 (.block 1 (.seq (.ay [Qm 12 0,Q 13 (.bin .rem (.t 12) (kI 10)),Qm 5 13] [0,3,4,5] [])
 (.seq (.seq (.ay [Qm 14 5,Q 15 (.bin .lss (.t 14) (kI 0))] [0,3,4,5,15] [])
 (.cond (.t 15) (.ay [Qm 16 5,Q 17 (.neg (.t 16)),Qm 5 17] [0,3,4,5] []) (.skip)))
 (.seq (.ay [Qm 18 5,Q 19 (.call 247 [.t 18] [] []),Q 20 (.cE 1 1 [.int .u8 0] [(0,.t 19)]),Q 21 (.yA (.t 20)),Qm 22 4,Q 23 (.bin .add (.t 21) (.t 22)),Qm 4 23] [0,3,4] [])
 (.ay [Qm 24 0,Q 25 (.bin .quo (.t 24) (kI 10)),Qm 0 25] [0,3,4] [])))))
def a0.b:C:= .seq (.ay [Q 2 (.mv (.k (.str ⟨#[]⟩)))] [0] [])
 (.seq (.seq (.ay [Qm 6 0,Q 7 (.bin .eql (.t 6) (kI 0))] [0,7] [])
 (.cond (.t 7) (.seq (.ay [Q 2 (.mv (.k (.str ⟨#[48]⟩)))] [2] [])
 (.ret)) (.skip)))
 (.seq (.ay [Qm 8 0,Q 9 (.bin .lss (.t 8) (kI 0)),Qm 3 9] [0,3] [])
 (.seq (.ay [Q 4 (.mv (.k (.str ⟨#[]⟩)))] [0,3,4] [])
 (.seq (.block 0 (.loop a0.l0))
 (.seq (.seq (.ay [Qm 26 3] [4,26] [])
 (.cond (.t 26) (.seq (.ay [Qm 27 4,Q 28 (.bin .add (.k (.str ⟨#[45]⟩)) (.t 27)),Qm 2 28] [2] [])
 (.ret)) (.skip)))
 (.seq (.ay [Qm 29 4,Qm 2 29] [2] [])
 (.ret)))))))
def a0.m:Fn:={np:=1,body:=a0.b,res:=[.tmp 2]}
def a0.k(M:Nat→Option Body):Prop:=M 197=some (.code a0.m)∧dg.k M
def bM.l0:C:= .seq (.seq (.ay [Qm 9 4,Q 10 (.bin .neq (.t 9) (kI 0))] [0,3,4,10] [])
 (.cond (.t 10) (.skip) (.exit 0)))
 (.seq (.block 1 (.seq (.ay [Qm 13 4,Q 14 (.bin .rem (.t 13) (kI 10)),Qm 5 14] [0,3,4,5] [])
 (.seq (.ay [Qm 15 5,Qm 16 5,Q 17 (.neg (.t 16)),Q 18 (.max (.t 15) (.t 17)),Qm 5 18] [0,3,4,5] [])
 (.ay [Qm 19 5,Qm 20 5,Q 21 (.bin .add (.t 20) (kI 1)),Q 22 (.ll (.k (.str ⟨#[48,49,50,51,52,53,54,55,56,57,97,98,99,100,101,102]⟩)) (some (.t 19)) (some (.t 21))),
   Qm 23 3,Q 24 (.bin .add (.t 22) (.t 23)),Qm 3 24] [0,3,4] []))))
 (.ay [Qm 11 4,Q 12 (.bin .quo (.t 11) (kI 10)),Qm 4 12] [0,3,4] []))
def bM.b:C:= .seq (.ay [Q 2 (.mv (.k (.str ⟨#[]⟩)))] [0] [])
 (.seq (.seq (.ay [Qm 6 0,Q 7 (.bin .eql (.t 6) (kI 0))] [0,7] [])
 (.cond (.t 7) (.seq (.ay [Q 2 (.mv (.k (.str ⟨#[48]⟩)))] [2] [])
 (.ret)) (.skip)))
 (.seq (.ay [Q 3 (.mv (.k (.str ⟨#[]⟩)))] [0,3] [])
 (.seq (.seq (.ay [Qm 8 0,Qm 4 8] [0,3,4] [])
 (.block 0 (.loop bM.l0)))
 (.seq (.seq (.ay [Qm 25 0,Q 26 (.bin .lss (.t 25) (kI 0))] [3,26] [])
 (.cond (.t 26) (.ay [Qm 27 3,Q 28 (.bin .add (.k (.str ⟨#[45]⟩)) (.t 27)),Qm 3 28] [3] []) (.skip)))
 (.seq (.ay [Qm 29 3,Qm 2 29] [2] [])
 (.ret))))))
def bM.m:Fn:={np:=1,body:=bM.b,res:=[.tmp 2]}
def bM.k(M:Nat→Option Body):Prop:=M 128=some (.code bM.m)
def cu.b:C:= .seq (.ay [Qv 1 0,Q 2 (.mv (.k (.str ⟨#[]⟩)))] [1] [1])
 (.seq (.seq (.ay [Qf 5 0 1,Ql 6 5,Q 7 (.bin .eql (.t 6) (kI 1))] [1,7] [1])
 (.cond (.t 7) (.seq (.ay [Qf 8 1 1,Ql 9 8,Qm 2 9] [2] [])
 (.ret)) (.skip)))
 (.seq (.ay [Qf 11 1 1,Ql 12 11,Q 13 (.call 319 [.t 12] [] []),Qm 10 13,Qx 14 0 10,Qx 15 1 10,Qm 3 14,Qm 4 15] [1,3,4] [1])
 (.seq (.seq (.ay [Qm 16 4] [1,3,16] [1])
 (.cond (.t 16) (.seq (.ay [Qm 17 3,Qm 2 17] [2] [])
 (.ret)) (.skip)))
 (.seq (.eD [Qf 18 1 1,Ql 19 18,Q 20 (.gJ (.t 19)),Q 21 (.call 197 [.t 20] [] []),Q 22 (.bin .add (.k (.str ⟨#[123]⟩)) (.t 21)),Q 23 (.bin .add (.t 22) (.k (.str ⟨#[125,13,10]⟩))),
   Qf 24 1 1,Ql 25 24,Q 26 (.bin .add (.t 23) (.t 25)),Qm 2 26] [[],[0],[0,1],[0,1,2],[0,1,2,3],[0,1,2,3,4],[],[6],[0,1,2,3,4,5,6,7],[0,1,2,3,4,5,6,7,8]] [2] [])
 (.ret)))))
def cu.m:Fn:={np:=1,body:=cu.b,res:=[.tmp 2]}
def cu.k(M:Nat→Option Body):Prop:=M 328=some (.code cu.m)∧a0.k M∧a_.k M
def aV.b:C:= .seq (.ay [Q 2 (.mv (.k (.int .u8 0))),Qb 3 false] [0] [0])
 (.seq (.seq (.ay [Qm 4 0,Q 5 (.dx (.t 4)),Qf 6 2 5,Ql 7 6,Qm 8 7,Qg 9 (.mv (.t 0)) 8 false,Qg 10 (.dx (.t 9)) 8 false,Qg 11 (.cS 3 (.t 10)) 8 false,
   Qg 12 (.load false 1 (.t 11)) 8 false,Q 13 (.pick (.t 8) (kB true) (.t 12))] [0,13] [0])
 (.cond (.t 13) (.seq (.ay [Q 2 (.mv (.k (.int .u8 0))),Qb 3 false] [2,3] [0])
 (.ret)) (.skip)))
 (.seq (.seq (.eD [Qm 14 0,Q 15 (.dx (.t 14)),Qf 16 1 15,Ql 17 16,Qm 18 0,Q 19 (.dx (.t 18)),Qf 20 0 19,Ql 21 20,Q 22 (.gJ (.t 21)),Q 23 (.bin .geq (.t 17) (.t 22))] [[],[0],[0,1],[0,1,2],[],[4],[4,5],[4,5,6],[4,5,6,7],lr 9] [0,23] [0])
 (.cond (.t 23) (.seq (.ay [Qm 24 0,Q 25 (.dx (.t 24)),Qf 26 2 25,Qn (.store 1 (.t 26) (kB true))] [] [0])
 (.seq (.ay [Q 2 (.mv (.k (.int .u8 0))),Qb 3 false] [2,3] [0])
 (.ret))) (.skip)))
 (.seq (.eD [Qm 27 0,Q 28 (.dx (.t 27)),Qf 29 0 28,Ql 30 29,Qm 31 0,Q 32 (.dx (.t 31)),Qf 33 1 32,Ql 34 33,Q 35 (.idx (.t 30) (.t 34)),Qm 2 35,Qb 3 true] [[],[0],[0,1],[0,1,2],[],[4],[4,5],[4,5,6],lr 8,lr 9,lr 10] [2,3] [0])
 (.ret))))
def aV.m:Fn:={np:=1,body:=aV.b,res:=[.tmp 2,.tmp 3]}
def aV.k(M:Nat→Option Body):Prop:=M 304=some (.code aV.m)
def aK.l0:C:= .block 1 (.seq (.ay [Qm 17 0,Q 18 (.call 304 [.t 17] [0] []),Qm 16 18,Qx 19 0 16,Qx 20 1 16,Qm 4 19,Qm 5 20] [0,3,4,5] [0])
 (.seq (.seq (.ay [Qm 21 5,Q 22 (.not (.t 21))] [0,3,4,22] [0])
 (.cond (.t 22) (.seq (.ay [Q 2 (.mv (.k (.str ⟨#[]⟩)))] [2] [0])
 (.ret)) (.skip)))
 (.seq (.ay [Qm 23 0,Qm 24 0,Q 25 (.dx (.t 24)),Qf 26 1 25,Ql 27 26,Q 28 (.bin .add (.t 27) (kI 1)),Q 29 (.dx (.t 23)),Qf 30 1 29,Qs 1 30 28] [0,3,4] [0])
 (.seq (.seq (.ay [Qm 31 4,Q 32 (.bin .eql (.t 31) (.k (.int .u8 34)))] [0,3,4,32] [0])
 (.cond (.t 32) (.exit 0) (.skip)))
 (.seq (.seq (.ay [Qm 33 4,Q 34 (.bin .eql (.t 33) (.k (.int .u8 92)))] [0,3,4,34] [0])
 (.cond (.t 34) (.seq (.ay [Qm 36 0,Q 37 (.call 304 [.t 36] [0] []),Qm 35 37,Qx 38 0 35,Qx 39 1 35,Qm 6 38,Qm 7 39] [0,3,6,7] [0])
 (.seq (.seq (.ay [Qm 40 7,Q 41 (.not (.t 40))] [0,3,6,41] [0])
 (.cond (.t 41) (.seq (.ay [Q 2 (.mv (.k (.str ⟨#[]⟩)))] [2] [0])
 (.ret)) (.skip)))
 (.seq (.seq (.ay [Qm 42 6,Q 43 (.bin .neq (.t 42) (.k (.int .u8 34))),Qm 44 43,Qg 45 (.mv (.t 6)) 44 true,Qg 46 (.bin .neq (.t 45) (.k (.int .u8 92))) 44 true,
   Q 47 (.pick (.t 44) (.t 46) (kB false))] [0,3,6,47] [0])
 (.cond (.t 47) (.seq (.ay [Qm 48 0,Q 49 (.dx (.t 48)),Qf 50 3 49,Qn (.store 1 (.t 50) (kB true))] [] [0])
 (.seq (.ay [Q 2 (.mv (.k (.str ⟨#[]⟩)))] [2] [0])
 (.ret))) (.skip)))
 (.seq (.ay [Qm 51 0,Qm 52 0,Q 53 (.dx (.t 52)),Qf 54 1 53,Ql 55 54,Q 56 (.bin .add (.t 55) (kI 1)),Q 57 (.dx (.t 51)),Qf 58 1 57,Qs 1 58 56] [0,3,6] [0])
 (.ay [Qm 59 6,Qm 4 59] [0,3,4] [0]))))) (.seq (.ay [Qm 60 4,Q 61 (.bin .lss (.t 60) (.k (.int .u8 32))),Qm 62 61,Qg 63 (.mv (.t 4)) 62 false,Qg 64 (.bin .gtr (.t 63) (.k (.int .u8 126))) 62 false,
   Q 65 (.pick (.t 62) (kB true) (.t 64))] [0,3,4,65] [0])
 (.cond (.t 65) (.seq (.ay [Qm 66 0,Q 67 (.dx (.t 66)),Qf 68 3 67,Qn (.store 1 (.t 68) (kB true))] [] [0])
 (.seq (.ay [Q 2 (.mv (.k (.str ⟨#[]⟩)))] [2] [0])
 (.ret))) (.skip)))))
 (.seq (.ay [Qm 69 3,Qm 70 4,Q 71 (.cE 1 1 [.int .u8 0] [(0,.t 70)]),Q 72 (.yA (.t 71)),Q 73 (.bin .add (.t 69) (.t 72)),Qm 3 73] [0,3] [0])
 (.seq (.ay [Qm 74 3,Q 75 (.gJ (.t 74)),Q 76 (.bin .gtr (.t 75) (kI 60))] [0,3,76] [0])
 (.cond (.t 76) (.seq (.ay [Qm 77 0,Q 78 (.dx (.t 77)),Qf 79 3 78,Qn (.store 1 (.t 79) (kB true))] [] [0])
 (.seq (.ay [Q 2 (.mv (.k (.str ⟨#[]⟩)))] [2] [0])
 (.ret))) (.skip)))))))))
def aK.b:C:= .seq (.ay [Q 2 (.mv (.k (.str ⟨#[]⟩)))] [0] [0])
 (.seq (.ay [Q 3 (.mv (.k (.str ⟨#[]⟩)))] [0,3] [0])
 (.seq (.ay [Qm 8 0,Qm 9 0,Q 10 (.dx (.t 9)),Qf 11 1 10,Ql 12 11,Q 13 (.bin .add (.t 12) (kI 1)),Q 14 (.dx (.t 8)),Qf 15 1 14,Qs 1 15 13] [0,3] [0])
 (.seq (.block 0 (.loop aK.l0))
 (.seq (.ay [Qm 80 3,Qm 2 80] [2] [0])
 (.ret)))))
def aK.m:Fn:={np:=1,body:=aK.b,res:=[.tmp 2]}
def aK.k(M:Nat→Option Body):Prop:=M 316=some (.code aK.m)∧aV.k M
def bq.b:C:= .seq (.ay [Qm 7 0,Q 8 (.call 304 [.t 7] [0] []),Qm 6 8,Qx 9 0 6,Qx 10 1 6,Qm 4 9,Qm 5 10] [0,1,4,5] [0])
 (.seq (.seq (.ay [Qm 11 5,Qm 12 11,Qg 13 (.mv (.t 4)) 12 true,Qg 14 (.mv (.t 1)) 12 true,Qg 15 (.bin .neq (.t 13) (.t 14)) 12 true,Q 16 (.pick (.t 12) (.t 15) (kB false))] [0,5,16] [0])
 (.cond (.t 16) (.seq (.ay [Qm 17 0,Q 18 (.dx (.t 17)),Qf 19 3 18,Qn (.store 1 (.t 19) (kB true))] [] [0])
 (.ret)) (.skip)))
 (.seq (.ay [Qm 20 5] [0,20] [0])
 (.cond (.t 20) (.ay [Qm 21 0,Qm 22 0,Q 23 (.dx (.t 22)),Qf 24 1 23,Ql 25 24,Q 26 (.bin .add (.t 25) (kI 1)),Q 27 (.dx (.t 21)),Qf 28 1 27,Qs 1 28 26] [] [0]) (.skip))))
def bq.m:Fn:={np:=2,body:=bq.b,res:=[]}
def bq.k(M:Nat→Option Body):Prop:=M 305=some (.code bq.m)∧aV.k M
def aB.l0:C:= .block 1 (.seq (.ay [Qm 17 0,Q 18 (.call 304 [.t 17] [0] []),Qm 16 18,Qx 19 0 16,Qx 20 1 16,Qm 5 19,Qm 6 20] [0,3,4,5,6] [0])
 (.seq (.seq (.ay [Qm 21 6,Q 22 (.not (.t 21))] [0,3,4,5,22] [0])
 (.cond (.t 22) (.seq (.ay [Q 2 (.mv (.k (.str ⟨#[]⟩)))] [2] [0])
 (.ret)) (.skip)))
 (.seq (.seq (.ay [Qm 23 5,Q 24 (.bin .eql (.t 23) (.k (.int .u8 125)))] [0,3,4,5,24] [0])
 (.cond (.t 24) (.exit 0) (.skip)))
 (.seq (.seq (.ay [Qm 25 5,Q 26 (.bin .lss (.t 25) (.k (.int .u8 48))),Qm 27 26,Qg 28 (.mv (.t 5)) 27 false,Qg 29 (.bin .gtr (.t 28) (.k (.int .u8 57))) 27 false,
   Q 30 (.pick (.t 27) (kB true) (.t 29)),Qm 31 30,Qg 32 (.mv (.t 4)) 31 false,Qg 33 (.bin .eql (.t 32) (kI 2)) 31 false,Q 34 (.pick (.t 31) (kB true) (.t 33))] [0,3,4,5,34] [0])
 (.cond (.t 34) (.seq (.ay [Qm 35 0,Q 36 (.dx (.t 35)),Qf 37 3 36,Qn (.store 1 (.t 37) (kB true))] [] [0])
 (.seq (.ay [Q 2 (.mv (.k (.str ⟨#[]⟩)))] [2] [0])
 (.ret))) (.skip)))
 (.seq (.ay [Qm 38 3,Q 39 (.bin .mul (kI 10) (.t 38)),Qm 40 5,Q 41 (.qL .i64 (.t 40)),Q 42 (.bin .add (.t 39) (.t 41)),Q 43 (.bin .sub (.t 42) (kI 48)),Qm 3 43] [0,3,4] [0])
 (.seq (.ay [Qm 44 4,Q 45 (.bin .add (.t 44) (kI 1)),Qm 4 45] [0,3,4] [0])
 (.ay [Qm 46 0,Qm 47 0,Q 48 (.dx (.t 47)),Qf 49 1 48,Ql 50 49,Q 51 (.bin .add (.t 50) (kI 1)),Q 52 (.dx (.t 46)),Qf 53 1 52,Qs 1 53 51] [0,3,4] [0])))))))
def aB.b:C:= .seq (.ay [Q 2 (.mv (.k (.str ⟨#[]⟩)))] [0] [0])
 (.seq (.ay [Qm 8 0,Qm 9 0,Q 10 (.dx (.t 9)),Qf 11 1 10,Ql 12 11,Q 13 (.bin .add (.t 12) (kI 1)),Q 14 (.dx (.t 8)),Qf 15 1 14,Qs 1 15 13] [0] [0])
 (.seq (.ay [Qi 3 0] [0,3] [0])
 (.seq (.ay [Qi 4 0] [0,3,4] [0])
 (.seq (.block 0 (.loop aB.l0))
 (.seq (.seq (.ay [Qm 54 4,Q 55 (.bin .eql (.t 54) (kI 0)),Qm 56 55,Qg 57 (.mv (.t 3)) 56 false,Qg 58 (.bin .gtr (.t 57) (kI 60)) 56 false,Q 59 (.pick (.t 56) (kB true) (.t 58))] [0,3,59] [0])
 (.cond (.t 59) (.seq (.ay [Qm 60 0,Q 61 (.dx (.t 60)),Qf 62 3 61,Qn (.store 1 (.t 62) (kB true))] [] [0])
 (.seq (.ay [Q 2 (.mv (.k (.str ⟨#[]⟩)))] [2] [0])
 (.ret))) (.skip)))
 (.seq (.ay [Qm 63 0,Qm 64 0,Q 65 (.dx (.t 64)),Qf 66 1 65,Ql 67 66,Q 68 (.bin .add (.t 67) (kI 1)),Q 69 (.dx (.t 63)),Qf 70 1 69,Qs 1 70 68] [0,3] [0])
 (.seq (.ay [Qm 71 0,Q 72 (.call 305 [.t 71,.k (.int .u8 13)] [0] [])] [0,3] [0])
 (.seq (.ay [Qm 73 0,Q 74 (.call 305 [.t 73,.k (.int .u8 10)] [0] [])] [0,3] [0])
 (.seq (.seq (.ay [Qm 75 0,Q 76 (.dx (.t 75)),Qf 77 3 76,Ql 78 77,Qm 79 78,Qg 80 (.mv (.t 0)) 79 false,Qg 81 (.dx (.t 80)) 79 false,Qg 82 (.cS 2 (.t 81)) 79 false,
   Qg 83 (.load false 1 (.t 82)) 79 false,Q 84 (.pick (.t 79) (kB true) (.t 83))] [0,3,84] [0])
 (.cond (.t 84) (.seq (.ay [Q 2 (.mv (.k (.str ⟨#[]⟩)))] [2] [0])
 (.ret)) (.skip)))
 (.seq (.seq (.eD [Qm 85 3,Qm 86 0,Q 87 (.dx (.t 86)),Qf 88 0 87,Ql 89 88,Q 90 (.gJ (.t 89)),Qm 91 0,Q 92 (.dx (.t 91)),Qf 93 1 92,Ql 94 93,Q 95 (.bin .sub (.t 90) (.t 94)),
   Q 96 (.bin .gtr (.t 85) (.t 95))] [[],[],[1],[1,2],[1,2,3],[1,2,3,4],[],[6],[6,7],[6,7,8],[1,2,3,4,5,6,7,8,9],lr 11] [0,3,96] [0])
 (.cond (.t 96) (.seq (.ay [Qm 97 0,Q 98 (.dx (.t 97)),Qf 99 2 98,Qn (.store 1 (.t 99) (kB true))] [] [0])
 (.seq (.ay [Q 2 (.mv (.k (.str ⟨#[]⟩)))] [2] [0])
 (.ret))) (.skip)))
 (.seq (.eD [Qm 100 0,Q 101 (.dx (.t 100)),Qf 102 0 101,Ql 103 102,Qm 104 0,Q 105 (.dx (.t 104)),Qf 106 1 105,Ql 107 106,Qm 108 0,Q 109 (.dx (.t 108)),Qf 110 1 109,Ql 111 110,
   Qm 112 3,Q 113 (.bin .add (.t 111) (.t 112)),Q 114 (.ll (.t 103) (some (.t 107)) (some (.t 113))),Qm 7 114] [[],[0],[0,1],[0,1,2],[],[4],[4,5],[4,5,6],[],[8],[8,9],[8,9,10],[],[8,9,10,11,12],lr 14,lr 15] [0,3,7] [0])
 (.seq (.ay [Qm 115 0,Qm 116 0,Q 117 (.dx (.t 116)),Qf 118 1 117,Ql 119 118,Qm 120 3,Q 121 (.bin .add (.t 119) (.t 120)),Q 122 (.dx (.t 115)),Qf 123 1 122,Qs 1 123 121] [7] [0])
 (.seq (.ay [Qm 124 7,Qm 2 124] [2] [0])
 (.ret))))))))))))))
def aB.m:Fn:={np:=1,body:=aB.b,res:=[.tmp 2]}
def aB.k(M:Nat→Option Body):Prop:=M 317=some (.code aB.m)∧aV.k M∧bq.k M
def aZ.l0:C:= .block 1 (.seq (.ay [Qm 12 0,Q 13 (.call 304 [.t 12] [0] []),Qm 11 13,Qx 14 0 11,Qx 15 1 11,Qm 4 14,Qm 5 15] [0,3,4,5] [0])
 (.seq (.seq (.ay [Qm 16 5,Q 17 (.not (.t 16))] [0,3,4,17] [0])
 (.cond (.t 17) (.seq (.ay [Q 2 (.mv (.k (.str ⟨#[]⟩)))] [2] [0])
 (.ret)) (.skip)))
 (.seq (.seq (.ay [Qm 18 4,Q 19 (.cE 1 1 [.int .u8 0] [(0,.t 18)]),Q 20 (.yA (.t 19)),Q 21 (.call 325 [.t 20] [] []),Q 22 (.not (.t 21))] [0,3,22] [0])
 (.cond (.t 22) (.exit 0) (.skip)))
 (.ay [Qm 23 0,Qm 24 0,Q 25 (.dx (.t 24)),Qf 26 1 25,Ql 27 26,Q 28 (.bin .add (.t 27) (kI 1)),Q 29 (.dx (.t 23)),Qf 30 1 29,Qs 1 30 28] [0,3] [0]))))
def aZ.b:C:= .seq (.ay [Q 2 (.mv (.k (.str ⟨#[]⟩)))] [0] [0])
 (.seq (.ay [Qm 7 0,Q 8 (.dx (.t 7)),Qf 9 1 8,Ql 10 9,Qm 3 10] [0,3] [0])
 (.seq (.block 0 (.loop aZ.l0))
 (.seq (.eD [Qm 31 0,Q 32 (.dx (.t 31)),Qf 33 0 32,Ql 34 33,Qm 35 3,Qm 36 0,Q 37 (.dx (.t 36)),Qf 38 1 37,Ql 39 38,Q 40 (.ll (.t 34) (some (.t 35)) (some (.t 39))),Qm 6 40] [[],[0],[0,1],[0,1,2],[],[],[5],[5,6],[5,6,7],lr 9,lr 10] [0,6] [0])
 (.seq (.seq (.ay [Qm 41 6,Q 42 (.call 325 [.t 41] [] []),Q 43 (.not (.t 42))] [0,6,43] [0])
 (.cond (.t 43) (.seq (.ay [Qm 44 0,Q 45 (.dx (.t 44)),Qf 46 3 45,Qn (.store 1 (.t 46) (kB true))] [] [0])
 (.seq (.ay [Q 2 (.mv (.k (.str ⟨#[]⟩)))] [2] [0])
 (.ret))) (.skip)))
 (.seq (.ay [Qm 47 6,Qm 2 47] [2] [0])
 (.ret))))))
def aZ.m:Fn:={np:=1,body:=aZ.b,res:=[.tmp 2]}
def aZ.k(M:Nat→Option Body):Prop:=M 318=some (.code aZ.m)∧aV.k M∧bw.k M
def bo.b:C:= .seq (.ay [Q 2 (.alloc [.int .i64 0,.str ⟨#[]⟩])] [0,2] [0,2])
 (.seq (.ay [Qm 6 0,Q 7 (.call 304 [.t 6] [0] []),Qm 5 7,Qx 8 0 5,Qx 9 1 5,Qm 3 8,Qm 4 9] [0,2,3,4] [0,2])
 (.seq (.seq (.ay [Qm 10 4,Q 11 (.not (.t 10))] [0,2,3,11] [0,2])
 (.cond (.t 11) (.seq (.ay [Q 12 (.build [.int .i64 0,.str ⟨#[]⟩] []),Qs 2 2 12] [2] [0,2])
 (.ret)) (.skip)))
 (.seq (.seq (.ay [Qm 13 3] [0,2,13] [0,2])
 (.block 0 (.seq (.ay [Q 15 (.bin .eql (.t 13) (.k (.int .u8 34))),Qm 14 15] [0,2,13,14] [0,2])
 (.cond (.t 14) (.seq (.ay [Qm 16 0,Q 17 (.call 316 [.t 16] [0] []),Q 18 (.build [.int .i64 0,.str ⟨#[]⟩] [(0,1,kI 2),(1,1,.t 17)]),Qs 2 2 18] [2] [0,2])
 (.ret)) (.seq (.ay [Q 20 (.bin .eql (.t 13) (.k (.int .u8 123))),Qm 19 20] [0,2,19] [0,2])
 (.cond (.t 19) (.seq (.ay [Qm 21 0,Q 22 (.call 317 [.t 21] [0] []),Q 23 (.build [.int .i64 0,.str ⟨#[]⟩] [(0,1,kI 2),(1,1,.t 22)]),Qs 2 2 23] [2] [0,2])
 (.ret)) (.skip)))))))
 (.seq (.ay [Qm 24 0,Q 25 (.call 318 [.t 24] [0] []),Q 26 (.build [.int .i64 0,.str ⟨#[]⟩] [(0,1,kI 1),(1,1,.t 25)]),Qs 2 2 26] [2] [0,2])
 (.ret)))))
def bo.m:Fn:={np:=1,body:=bo.b,res:=[.cell 2 true 2]}
def bo.k(M:Nat→Option Body):Prop:=M 303=some (.code bo.m)∧aV.k M∧aK.k M∧aB.k M∧aZ.k M
def bS.l0:C:= .seq (.seq (.ay [Qm 4 3,Q 5 (.bin .add (.t 4) (kI 1)),Qm 6 0,Q 7 (.gJ (.t 6)),Q 8 (.bin .lss (.t 5) (.t 7))] [0,3,8] [])
 (.cond (.t 8) (.skip) (.exit 0)))
 (.seq (.block 1 (.seq (.ay [Qm 11 0,Qm 12 3,Q 13 (.idx (.t 11) (.t 12)),Q 14 (.bin .eql (.t 13) (.k (.int .u8 13))),Qm 15 14,Qg 16 (.mv (.t 0)) 15 true,Qg 17 (.mv (.t 3)) 15 true,
   Qg 18 (.bin .add (.t 17) (kI 1)) 15 true,Qg 19 (.idx (.t 16) (.t 18)) 15 true,Qg 20 (.bin .eql (.t 19) (.k (.int .u8 10))) 15 true,Q 21 (.pick (.t 15) (.t 20) (kB false))] [0,3,21] [])
 (.cond (.t 21) (.seq (.ay [Qm 22 0,Qm 23 3,Q 24 (.bin .add (.t 23) (kI 2)),Q 25 (.ll (.t 22) (some (.t 24)) none),Qm 2 25] [2] [])
 (.ret)) (.skip))))
 (.ay [Qm 9 3,Q 10 (.bin .add (.t 9) (kI 1)),Qm 3 10] [0,3] []))
def bS.b:C:= .seq (.ay [Q 2 (.mv (.k (.str ⟨#[]⟩)))] [0] [])
 (.seq (.seq (.ay [Qi 3 0] [0,3] [])
 (.block 0 (.loop bS.l0)))
 (.seq (.ay [Q 2 (.mv (.k (.str ⟨#[]⟩)))] [2] [])
 (.ret)))
def bS.m:Fn:={np:=1,body:=bS.b,res:=[.tmp 2]}
def bS.k(M:Nat→Option Body):Prop:=M 306=some (.code bS.m)
def aG.l0:C:= .block 1 (.seq (.ay [Qm 16 6,Q 17 (.call 303 [.t 16] [0] []),Q 8 (.alloc [.int .i64 0,.str ⟨#[]⟩]),Qs 2 8 17] [0,5,6,7,8] [8,11,14,15,31])
 (.seq (.seq (.ay [Qm 18 6,Q 19 (.dx (.t 18)),Qf 20 3 19,Ql 21 20,Qm 22 21,Qg 23 (.mv (.t 6)) 22 false,Qg 24 (.dx (.t 23)) 22 false,Qg 25 (.cS 2 (.t 24)) 22 false,
   Qg 26 (.load false 1 (.t 25)) 22 false,Q 27 (.pick (.t 22) (kB true) (.t 26))] [0,5,6,7,8,27] [8,11,14,15,31])
 (.cond (.t 27) (.exit 0) (.skip)))
 (.seq (.ay [Qm 28 7,QL 29 2 8,Q 30 (.cE 2 1 [.int .i64 0,.str ⟨#[]⟩] [(0,.t 29)]),Q 31 (.app 2 24 (.t 28) (.t 30)),Qm 7 31] [0,5,6,7] [11,14,15,31])
 (.seq (.seq (.ay [Qm 32 7,Q 33 (.len (.t 32)),Q 34 (.bin .gtr (.t 33) (kI 8))] [0,5,6,7,34] [11,14,15,31])
 (.cond (.t 34) (.seq (.ay [Qm 35 6,Q 36 (.dx (.t 35)),Qf 37 3 36,Qn (.store 1 (.t 37) (kB true))] [0,5,6,7] [11,14,15,31])
 (.exit 0)) (.skip)))
 (.seq (.ay [Qm 39 6,Q 40 (.call 304 [.t 39] [0] []),Qm 38 40,Qx 41 0 38,Qx 42 1 38,Qm 9 41,Qm 10 42] [0,5,6,7,9,10] [11,14,15,31])
 (.seq (.seq (.ay [Qm 43 10,Q 44 (.not (.t 43))] [0,5,6,7,9,44] [11,14,15,31])
 (.cond (.t 44) (.exit 0) (.skip)))
 (.seq (.seq (.ay [Qm 45 9,Q 46 (.bin .eql (.t 45) (.k (.int .u8 13)))] [0,5,6,7,46] [11,14,15,31])
 (.cond (.t 46) (.seq (.ay [Qm 47 6,Qm 48 6,Q 49 (.dx (.t 48)),Qf 50 1 49,Ql 51 50,Q 52 (.bin .add (.t 51) (kI 1)),Q 53 (.dx (.t 47)),Qf 54 1 53,Qs 1 54 52] [0,5,6,7] [11,14,15,31])
 (.seq (.ay [Qm 55 6,Q 56 (.call 305 [.t 55,.k (.int .u8 10)] [0] [])] [0,5,6,7] [11,14,15,31])
 (.exit 0))) (.skip)))
 (.seq (.ay [Qm 57 6,Q 58 (.call 305 [.t 57,.k (.int .u8 32)] [0] [])] [0,5,6,7] [11,14,15,31])
 (.seq (.ay [Qm 59 6,Q 60 (.dx (.t 59)),Qf 61 3 60,Ql 62 61,Qm 63 62,Qg 64 (.mv (.t 6)) 63 false,Qg 65 (.dx (.t 64)) 63 false,Qg 66 (.cS 2 (.t 65)) 63 false,
   Qg 67 (.load false 1 (.t 66)) 63 false,Q 68 (.pick (.t 63) (kB true) (.t 67))] [0,5,6,7,68] [11,14,15,31])
 (.cond (.t 68) (.exit 0) (.skip)))))))))))
def aG.b:C:= .seq (.ay [Q 2 (.nil 2),Q 3 (.mv (.k (.str ⟨#[]⟩))),Qi 4 0] [0] [])
 (.seq (.ay [Q 11 (.cE 2 0 [.int .i64 0,.str ⟨#[]⟩] []),Qm 5 11] [0,5] [11])
 (.seq (.ay [Qm 12 0,Q 13 (.build [.str ⟨#[]⟩,.int .i64 0,.bool false,.bool false] [(0,1,.t 12)]),Qv 14 13,Qm 6 14] [0,5,6] [11,14])
 (.seq (.ay [Q 15 (.cE 2 0 [.int .i64 0,.str ⟨#[]⟩] []),Qm 7 15] [0,5,6,7] [11,14,15,31])
 (.seq (.block 0 (.loop aG.l0))
 (.seq (.seq (.ay [Qm 69 6,Q 70 (.dx (.t 69)),Qf 71 2 70,Ql 72 71,Qm 73 72,Qg 74 (.mv (.t 0)) 73 true,Qg 75 (.gJ (.t 74)) 73 true,Qg 76 (.bin .leq (.t 75) (kI 200)) 73 true,
   Q 77 (.pick (.t 73) (.t 76) (kB false))] [0,5,6,7,77] [11,14,15,31])
 (.cond (.t 77) (.seq (.ay [Qm 78 5,Qm 79 0,Qm 2 78,Qm 3 79,Qi 4 1] [2,3,4] [2,11,15,31])
 (.ret)) (.skip)))
 (.seq (.seq (.ay [Qm 80 6,Q 81 (.dx (.t 80)),Qf 82 3 81,Ql 83 82,Qm 84 83,Qg 85 (.mv (.t 6)) 84 false,Qg 86 (.dx (.t 85)) 84 false,Qg 87 (.cS 2 (.t 86)) 84 false,
   Qg 88 (.load false 1 (.t 87)) 84 false,Q 89 (.pick (.t 84) (kB true) (.t 88)),Qm 90 89,Qg 91 (.mv (.t 6)) 90 false,Qg 92 (.dx (.t 91)) 90 false,
   Qg 93 (.cS 1 (.t 92)) 90 false,Qg 94 (.load false 1 (.t 93)) 90 false,Qg 95 (.bin .gtr (.t 94) (kI 200)) 90 false,Q 96 (.pick (.t 90) (kB true) (.t 95))] [0,5,6,7,96] [11,14,15,31])
 (.cond (.t 96) (.seq (.ay [Qm 97 5,Qm 98 0,Q 99 (.call 306 [.t 98] [] []),Qm 2 97,Qm 3 99,Qi 4 2] [2,3,4] [2,11,15,31])
 (.ret)) (.skip)))
 (.seq (.eD [Qm 100 7,Qm 101 0,Qm 102 6,Q 103 (.dx (.t 102)),Qf 104 1 103,Ql 105 104,Q 106 (.ll (.t 101) (some (.t 105)) none),Qm 2 100,Qm 3 106,Qi 4 0] [[],[],[],[2],[2,3],[2,3,4],[1,2,3,4,5],[0],lr 8,lr 9] [2,3,4] [2,11,15,31])
 (.ret))))))))
def aG.m:Fn:={np:=1,body:=aG.b,res:=[.tmp 2,.tmp 3,.tmp 4]}
def aG.k(M:Nat→Option Body):Prop:=M 286=some (.code aG.m)∧bo.k M∧aV.k M∧bq.k M∧bS.k M
def aX.l0:C:= .seq (.seq (.ay [Qm 6 5,Qf 7 5 2,Ql 8 7,Q 9 (.len (.t 8)),Q 10 (.bin .lss (.t 6) (.t 9))] [1,2,5,10] [2])
 (.cond (.t 10) (.skip) (.exit 0)))
 (.seq (.block 1 (.seq (.ay [Qf 13 5 2,Ql 14 13,Qm 15 5,Qa 16 4 14 15,Qf 17 0 16,Ql 18 17,Qm 19 1,Q 20 (.bin .eql (.t 18) (.t 19))] [1,2,5,20] [2])
 (.cond (.t 20) (.seq (.ay [Qm 21 5,Qm 4 21] [4] [])
 (.ret)) (.skip))))
 (.ay [Qm 11 5,Q 12 (.bin .add (.t 11) (kI 1)),Qm 5 12] [1,2,5] [2]))
def aX.b:C:= .seq (.ay [Qv 2 0,Qi 4 0] [1,2] [2])
 (.seq (.seq (.ay [Qi 5 0] [1,2,5] [2])
 (.block 0 (.loop aX.l0)))
 (.seq (.ay [Qi 4 (-1)] [4] [])
 (.ret)))
def aX.m:Fn:={np:=2,body:=aX.b,res:=[.tmp 4]}
def aX.k(M:Nat→Option Body):Prop:=M 91=some (.code aX.m)
def de.b:C:= .seq (.ay [Qv 1 0,Qb 2 false] [1] [1])
 (.seq (.ay [Qf 3 0 1,Ql 4 3,Q 5 (.call 98 [.t 4,kI 0,kI 100000] [] []),Qm 6 5,Qg 7 (.cS 1 (.t 1)) 6 true,Qg 8 (.load false 1 (.t 7)) 6 true,
   Qg 9 (.call 98 [.t 8,kI 0,kI 2] [] []) 6 true,Q 10 (.pick (.t 6) (.t 9) (kB false)),Qm 2 10] [2] [])
 (.ret))
def de.m:Fn:={np:=1,body:=de.b,res:=[.tmp 2]}
def de.k(M:Nat→Option Body):Prop:=M 183=some (.code de.m)∧bh.k M
def dT.b:C:= .seq (.ay [Qv 1 0,Qb 2 false] [1] [1])
 (.seq (.ay [Qf 3 1 1,QL 4 2 3,Q 5 (.call 183 [.t 4] [] []),Qm 6 5,Qg 7 (.cS 0 (.t 1)) 6 true,Qg 8 (.load false 1 (.t 7)) 6 true,
   Qg 9 (.call 98 [.t 8,kI 0,kI 1000000000] [] []) 6 true,Q 10 (.pick (.t 6) (.t 9) (kB false)),Qm 2 10] [2] [])
 (.ret))
def dT.m:Fn:={np:=1,body:=dT.b,res:=[.tmp 2]}
def dT.k(M:Nat→Option Body):Prop:=M 276=some (.code dT.m)∧bh.k M∧de.k M
def bZ.l0:C:= .seq (.seq (.ay [Qm 4 3,Qm 5 0,Q 6 (.len (.t 5)),Q 7 (.bin .lss (.t 4) (.t 6))] [0,3,7] [])
 (.cond (.t 7) (.skip) (.exit 0)))
 (.seq (.block 1 (.seq (.ay [Qm 10 0,Qm 11 3,Qa 12 3 10 11,QL 13 3 12,Q 14 (.call 276 [.t 13] [] []),Q 15 (.not (.t 14)),Qm 16 15,Qg 17 (.mv (.t 0)) 16 false,Qg 18 (.mv (.t 3)) 16 false,
   Qg 19 (.eM 3 (.t 17) (.t 18)) 16 false,Qg 20 (.cS 0 (.t 19)) 16 false,Qg 21 (.load false 1 (.t 20)) 16 false,Qg 22 (.bin .gtr (.t 21) (kI 1)) 16 false,
   Q 23 (.pick (.t 16) (kB true) (.t 22))] [0,3,23] [])
 (.cond (.t 23) (.seq (.ay [Qb 2 false] [2] [])
 (.ret)) (.skip))))
 (.ay [Qm 8 3,Q 9 (.bin .add (.t 8) (kI 1)),Qm 3 9] [0,3] []))
def bZ.b:C:= .seq (.ay [Qb 2 false] [0] [])
 (.seq (.seq (.ay [Qi 3 0] [0,3] [])
 (.block 0 (.loop bZ.l0)))
 (.seq (.ay [Qm 24 0,Q 25 (.len (.t 24)),Q 26 (.bin .eql (.t 25) (kI 3)),Qm 2 26] [2] [])
 (.ret)))
def bZ.m:Fn:={np:=1,body:=bZ.b,res:=[.tmp 2]}
def bZ.k(M:Nat→Option Body):Prop:=M 242=some (.code bZ.m)∧dT.k M
def cM.b:C:= .seq (.ay [Qv 1 0,Qb 2 false] [1] [1])
 (.seq (.ay [Qf 3 0 1,Ql 4 3,Q 5 (.call 98 [.t 4,kI 1,kI 9999] [] []),Qm 6 5,Qg 7 (.cS 1 (.t 1)) 6 true,Qg 8 (.load false 1 (.t 7)) 6 true,
   Qg 9 (.call 98 [.t 8,kI 1,kI 9999] [] []) 6 true,Q 10 (.pick (.t 6) (.t 9) (kB false)),Qm 11 10,Qg 12 (.cS 2 (.t 1)) 11 true,Qg 13 (.load false 1 (.t 12)) 11 true,
   Qg 14 (.call 242 [.t 13] [] []) 11 true,Q 15 (.pick (.t 11) (.t 14) (kB false)),Qm 16 15,Qg 17 (.cS 3 (.t 1)) 16 true,Qg 18 (.load false 1 (.t 17)) 16 true,
   Qg 19 (.gJ (.t 18)) 16 true,Qg 20 (.bin .leq (.t 19) (kI 60)) 16 true,Q 21 (.pick (.t 16) (.t 20) (kB false)),Qm 2 21] [2] [])
 (.ret))
def cM.m:Fn:={np:=1,body:=cM.b,res:=[.tmp 2]}
def cM.k(M:Nat→Option Body):Prop:=M 187=some (.code cM.m)∧bh.k M∧bZ.k M
def cC.l0:C:= .seq (.seq (.ay [Qm 4 3,Qm 5 0,Q 6 (.gJ (.t 5)),Q 7 (.bin .lss (.t 4) (.t 6))] [0,3,7] [])
 (.cond (.t 7) (.skip) (.exit 0)))
 (.seq (.block 1 (.seq (.ay [Qm 10 0,Qm 11 3,Q 12 (.idx (.t 10) (.t 11)),Q 13 (.bin .lss (.t 12) (.k (.int .u8 97))),Qm 14 13,Qg 15 (.mv (.t 0)) 14 false,Qg 16 (.mv (.t 3)) 14 false,
   Qg 17 (.idx (.t 15) (.t 16)) 14 false,Qg 18 (.bin .gtr (.t 17) (.k (.int .u8 122))) 14 false,Q 19 (.pick (.t 14) (kB true) (.t 18)),Qm 20 19,Qg 21 (.mv (.t 0)) 20 true,
   Qg 22 (.mv (.t 3)) 20 true,Qg 23 (.idx (.t 21) (.t 22)) 20 true,Qg 24 (.bin .lss (.t 23) (.k (.int .u8 48))) 20 true,Qg 25 (.mv (.t 24)) 20 true,Qg 26 (.mv (.t 0)) 25 false,
   Qg 27 (.mv (.t 3)) 25 false,Qg 28 (.idx (.t 26) (.t 27)) 25 false,Qg 29 (.bin .gtr (.t 28) (.k (.int .u8 57))) 25 false,Qg 30 (.pick (.t 25) (kB true) (.t 29)) 20 true,
   Q 31 (.pick (.t 20) (.t 30) (kB false))] [0,3,31] [])
 (.cond (.t 31) (.seq (.ay [Qb 2 false] [2] [])
 (.ret)) (.skip))))
 (.ay [Qm 8 3,Q 9 (.bin .add (.t 8) (kI 1)),Qm 3 9] [0,3] []))
def cC.b:C:= .seq (.ay [Qb 2 false] [0] [])
 (.seq (.seq (.ay [Qi 3 0] [0,3] [])
 (.block 0 (.loop cC.l0)))
 (.seq (.ay [Qm 32 0,Q 33 (.gJ (.t 32)),Q 34 (.call 98 [.t 33,kI 1,kI 12] [] []),Qm 2 34] [2] [])
 (.ret)))
def cC.m:Fn:={np:=1,body:=cC.b,res:=[.tmp 2]}
def cC.k(M:Nat→Option Body):Prop:=M 90=some (.code cC.m)∧bh.k M
def bu.l0:C:= .seq (.seq (.ay [Qm 6 5,Qm 7 0,Q 8 (.len (.t 7)),Q 9 (.bin .lss (.t 6) (.t 8))] [0,1,5,9] [])
 (.cond (.t 9) (.skip) (.exit 0)))
 (.seq (.block 1 (.seq (.eD [Qm 12 0,Qm 13 5,Qa 14 1 12 13,Ql 15 14,Q 16 (.call 98 [.t 15,kI 1,kI 9999] [] []),Q 17 (.not (.t 16)),Qm 18 17,Qg 19 (.mv (.t 5)) 18 false,
   Qg 20 (.bin .gtr (.t 19) (kI 0)) 18 false,Qg 21 (.mv (.t 20)) 18 false,Qg 22 (.mv (.t 0)) 21 true,Qg 23 (.mv (.t 5)) 21 true,Qg 24 (.bin .sub (.t 23) (kI 1)) 21 true,
   Qg 25 (.eM 1 (.t 22) (.t 24)) 21 true,Qg 26 (.load false 1 (.t 25)) 21 true,Qg 27 (.mv (.t 0)) 21 true,Qg 28 (.mv (.t 5)) 21 true,Qg 29 (.eM 1 (.t 27) (.t 28)) 21 true,
   Qg 30 (.load false 1 (.t 29)) 21 true,Qg 31 (.bin .geq (.t 26) (.t 30)) 21 true,Qg 32 (.pick (.t 21) (.t 31) (kB false)) 18 false,Q 33 (.pick (.t 18) (kB true) (.t 32))] [[],[],[0,1],[0,1,2],[0,1,2,3],[0,1,2,3,4],[0,1,2,3,4,5],[0,1,2,3,4,5,6],[0,1,2,3,4,5,6,7],[0,1,2,3,4,5,6,7,8],[0,1,2,3,4,5,6,7,8,9],[0,1,2,3,4,5,6,7,8,9],[0,1,2,3,4,5,6,7,8,9,11],[0,1,2,3,4,5,6,7,8,9,10,11,12],[0,1,2,3,4,5,6,7,8,9,10,11,12,13],[0,1,2,3,4,5,6,7,8,9],[0,1,2,3,4,5,6,7,8,9],[0,1,2,3,4,5,6,7,8,9,15,16],[0,1,2,3,4,5,6,7,8,9,15,16,17],[0,1,2,3,4,5,6,7,8,9,10,11,12,13,14,15,16,17,18],[0,1,2,3,4,5,6,7,8,9,10,11,12,13,14,15,16,17,18,19],[0,1,2,3,4,5,6,7,8,9,10,11,12,13,14,15,16,17,18,19,20]] [0,1,5,33] [])
 (.cond (.t 33) (.seq (.ay [Qb 4 false] [4] [])
 (.ret)) (.skip))))
 (.ay [Qm 10 5,Q 11 (.bin .add (.t 10) (kI 1)),Qm 5 11] [0,1,5] []))
def bu.b:C:= .seq (.ay [Qb 4 false] [0,1] [])
 (.seq (.seq (.ay [Qi 5 0] [0,1,5] [])
 (.block 0 (.loop bu.l0)))
 (.seq (.ay [Qm 34 0,Q 35 (.len (.t 34)),Qm 36 1,Q 37 (.bin .leq (.t 35) (.t 36)),Qm 4 37] [4] [])
 (.ret)))
def bu.m:Fn:={np:=2,body:=bu.b,res:=[.tmp 4]}
def bu.k(M:Nat→Option Body):Prop:=M 186=some (.code bu.m)∧bh.k M
def bC.l0:C:= .seq (.seq (.ay [Qm 6 5,Qm 7 0,Q 8 (.len (.t 7)),Q 9 (.bin .lss (.t 6) (.t 8))] [0,1,5,9] [])
 (.cond (.t 9) (.skip) (.exit 0)))
 (.seq (.block 1 (.seq (.ay [Qm 12 0,Qm 13 5,Qa 14 1 12 13,Ql 15 14,Qm 16 1,Q 17 (.bin .eql (.t 15) (.t 16))] [0,1,5,17] [])
 (.cond (.t 17) (.seq (.ay [Qb 4 true] [4] [])
 (.ret)) (.skip))))
 (.ay [Qm 10 5,Q 11 (.bin .add (.t 10) (kI 1)),Qm 5 11] [0,1,5] []))
def bC.b:C:= .seq (.ay [Qb 4 false] [0,1] [])
 (.seq (.seq (.ay [Qi 5 0] [0,1,5] [])
 (.block 0 (.loop bC.l0)))
 (.seq (.ay [Qb 4 false] [4] [])
 (.ret)))
def bC.m:Fn:={np:=2,body:=bC.b,res:=[.tmp 4]}
def bC.k(M:Nat→Option Body):Prop:=M 132=some (.code bC.m)
def a6.l0:C:= .seq (.ay [Q 9 (.bin .lss (.t 8) (.t 7))] [0,1,7,8,9] [])
 (.seq (.cond (.t 9) (.skip) (.exit 0))
 (.seq (.block 1 (.seq (.ay [Qm 10 8,Qm 5 10] [0,1,5,7,8] [])
 (.seq (.ay [Qm 11 1,Qm 12 0,Qm 13 5,Qa 14 1 12 13,Ql 15 14,Q 16 (.bin .eql (.t 11) (.t 15))] [0,1,5,7,8,16] [])
 (.cond (.t 16) (.seq (.ay [Qm 17 5,Qm 4 17] [4] [])
 (.ret)) (.skip)))))
 (.ay [Q 18 (.bin .add (.t 8) (kI 1)),Qm 8 18] [0,1,7,8] [])))
def a6.b:C:= .seq (.ay [Qi 4 0] [0,1] [])
 (.seq (.seq (.ay [Qm 6 0,Q 7 (.len (.t 6)),Qi 8 0] [0,1,7,8] [])
 (.block 0 (.loop a6.l0)))
 (.seq (.ay [Qi 4 (-1)] [4] [])
 (.ret)))
def a6.m:Fn:={np:=2,body:=a6.b,res:=[.tmp 4]}
def a6.k(M:Nat→Option Body):Prop:=M 234=some (.code a6.m)
def bd.b:C:= .seq (.ay [Qb 4 false] [0,1] [])
 (.seq (.ay [Qm 5 0,Qm 6 1,Q 7 (.call 234 [.t 5,.t 6] [] []),Q 8 (.bin .geq (.t 7) (kI 0)),Qm 4 8] [4] [])
 (.ret))
def bd.m:Fn:={np:=2,body:=bd.b,res:=[.tmp 4]}
def bd.k(M:Nat→Option Body):Prop:=M 156=some (.code bd.m)∧a6.k M
def aU.l0:C:= .seq (.seq (.ay [Qm 39 3,Qf 40 5 1,Ql 41 40,Q 42 (.len (.t 41)),Q 43 (.bin .lss (.t 39) (.t 42))] [1,3,43] [1])
 (.cond (.t 43) (.skip) (.exit 0)))
 (.seq (.block 1 (.seq (.ay [Qf 46 5 1,Ql 47 46,Qm 48 3,Qa 49 4 47 48,QL 50 4 49,Q 4 (.alloc [.int .i64 0,.int .i64 0,.bp 3,.str ⟨#[]⟩]),Qs 4 4 50] [1,3,4] [1,4])
 (.seq (.eD [QL 51 4 4,Q 52 (.call 187 [.t 51] [] []),Q 53 (.not (.t 52)),Qm 54 53,Qg 55 (.cS 1 (.t 4)) 54 false,Qg 56 (.load false 1 (.t 55)) 54 false,Qg 57 (.cS 4 (.t 1)) 54 false,
   Qg 58 (.load false 1 (.t 57)) 54 false,Qg 59 (.bin .geq (.t 56) (.t 58)) 54 false,Q 60 (.pick (.t 54) (kB true) (.t 59)),Qm 61 60,Qg 62 (.mv (.t 3)) 61 false,
   Qg 63 (.bin .gtr (.t 62) (kI 0)) 61 false,Qg 64 (.mv (.t 63)) 61 false,Qg 65 (.cS 5 (.t 1)) 64 true,Qg 66 (.load false 1 (.t 65)) 64 true,Qg 67 (.mv (.t 3)) 64 true,
   Qg 68 (.bin .sub (.t 67) (kI 1)) 64 true,Qg 69 (.eM 4 (.t 66) (.t 68)) 64 true,Qg 70 (.cS 1 (.t 69)) 64 true,Qg 71 (.load false 1 (.t 70)) 64 true,
   Qg 72 (.cS 1 (.t 4)) 64 true,Qg 73 (.load false 1 (.t 72)) 64 true,Qg 74 (.bin .geq (.t 71) (.t 73)) 64 true,Qg 75 (.pick (.t 64) (.t 74) (kB false)) 61 false,
   Q 76 (.pick (.t 61) (kB true) (.t 75)),Qm 77 76,Qg 78 (.cS 6 (.t 1)) 77 false,Qg 79 (.load false 1 (.t 78)) 77 false,Qg 80 (.cS 0 (.t 4)) 77 false,
   Qg 81 (.load false 1 (.t 80)) 77 false,Qg 82 (.call 132 [.t 79,.t 81] [] []) 77 false,Q 83 (.pick (.t 77) (kB true) (.t 82)),Qm 84 83,Qg 85 (.load true 7 (.t 1)) 84 false,
   Qg 86 (.cS 0 (.t 4)) 84 false,Qg 87 (.load false 1 (.t 86)) 84 false,Qg 88 (.call 91 [.t 85,.t 87] [] []) 84 false,Qg 89 (.mv (.t 3)) 84 false,
   Qg 90 (.bin .neq (.t 88) (.t 89)) 84 false,Q 91 (.pick (.t 84) (kB true) (.t 90))] [[],[0],[0,1],[0,1,2],[0,1,2,3],[0,1,2,3,4],[0,1,2,3],[0,1,2,3,6],[0,1,2,3,4,5,6,7],[0,1,2,3,4,5,6,7,8],[0,1,2,3,4,5,6,7,8,9],[0,1,2,3,4,5,6,7,8,9,10],[0,1,2,3,4,5,6,7,8,9,10,11],[0,1,2,3,4,5,6,7,8,9,10,11,12],[0,1,2,3,4,5,6,7,8,9,10,11,12,13],[0,1,2,3,4,5,6,7,8,9,10,11,12,13,14],[0,1,2,3,4,5,6,7,8,9,10,11,12,13],[0,1,2,3,4,5,6,7,8,9,10,11,12,13,16],[0,1,2,3,4,5,6,7,8,9,10,11,12,13,14,15,16,17],[0,1,2,3,4,5,6,7,8,9,10,11,12,13,14,15,16,17,18],[0,1,2,3,4,5,6,7,8,9,10,11,12,13,14,15,16,17,18,19],[0,1,2,3,4,5,6,7,8,9,10,11,12,13],[0,1,2,3,4,5,6,7,8,9,10,11,12,13,21],[0,1,2,3,4,5,6,7,8,9,10,11,12,13,14,15,16,17,18,19,20,21,22],[0,1,2,3,4,5,6,7,8,9,10,11,12,13,14,15,16,17,18,19,20,21,22,23],[0,1,2,3,4,5,6,7,8,9,10,11,12,13,14,15,16,17,18,19,20,21,22,23,24],[0,1,2,3,4,5,6,7,8,9,10,11,12,13,14,15,16,17,18,19,20,21,22,23,24,25],[0,1,2,3,4,5,6,7,8,9,10,11,12,13,14,15,16,17,18,19,20,21,22,23,24,25,26],[0,1,2,3,4,5,6,7,8,9,10,11,12,13,14,15,16,17,18,19,20,21,22,23,24,25,26,27],[0,1,2,3,4,5,6,7,8,9,10,11,12,13,14,15,16,17,18,19,20,21,22,23,24,25,26],[0,1,2,3,4,5,6,7,8,9,10,11,12,13,14,15,16,17,18,19,20,21,22,23,24,25,26,29],[0,1,2,3,4,5,6,7,8,9,10,11,12,13,14,15,16,17,18,19,20,21,22,23,24,25,26,27,28,29,30],[0,1,2,3,4,5,6,7,8,9,10,11,12,13,14,15,16,17,18,19,20,21,22,23,24,25,26,27,28,29,30,31],[0,1,2,3,4,5,6,7,8,9,10,11,12,13,14,15,16,17,18,19,20,21,22,23,24,25,26,27,28,29,30,31,32],[0,1,2,3,4,5,6,7,8,9,10,11,12,13,14,15,16,17,18,19,20,21,22,23,24,25,26,27,28,29,30,31,32,33],[0,1,2,3,4,5,6,7,8,9,10,11,12,13,14,15,16,17,18,19,20,21,22,23,24,25,26,27,28,29,30,31,32,33],[0,1,2,3,4,5,6,7,8,9,10,11,12,13,14,15,16,17,18,19,20,21,22,23,24,25,26,27,28,29,30,31,32,33,35],[0,1,2,3,4,5,6,7,8,9,10,11,12,13,14,15,16,17,18,19,20,21,22,23,24,25,26,27,28,29,30,31,32,33,34,35,36],[0,1,2,3,4,5,6,7,8,9,10,11,12,13,14,15,16,17,18,19,20,21,22,23,24,25,26,27,28,29,30,31,32,33],[0,1,2,3,4,5,6,7,8,9,10,11,12,13,14,15,16,17,18,19,20,21,22,23,24,25,26,27,28,29,30,31,32,33,34,35,36,37,38],[0,1,2,3,4,5,6,7,8,9,10,11,12,13,14,15,16,17,18,19,20,21,22,23,24,25,26,27,28,29,30,31,32,33,34,35,36,37,38,39]] [1,3,91] [1])
 (.cond (.t 91) (.seq (.ay [Qb 2 false] [2] [])
 (.ret)) (.skip)))))
 (.ay [Qm 44 3,Q 45 (.bin .add (.t 44) (kI 1)),Qm 3 45] [1,3] [1]))
def aU.b:C:= .seq (.ay [Qv 1 0,Qb 2 false] [1] [1])
 (.seq (.seq (.ay [Qf 5 0 1,Ql 6 5,Q 7 (.call 98 [.t 6,kI 1,kI 9999] [] []),Q 8 (.not (.t 7)),Qm 9 8,Qg 10 (.cS 1 (.t 1)) 9 false,Qg 11 (.load false 1 (.t 10)) 9 false,
   Qg 12 (.call 90 [.t 11] [] []) 9 false,Qg 13 (.not (.t 12)) 9 false,Q 14 (.pick (.t 9) (kB true) (.t 13)),Qm 15 14,Qg 16 (.cS 2 (.t 1)) 15 false,
   Qg 17 (.load true 2 (.t 16)) 15 false,Qg 18 (.call 183 [.t 17] [] []) 15 false,Qg 19 (.not (.t 18)) 15 false,Q 20 (.pick (.t 15) (kB true) (.t 19)),Qm 21 20,
   Qg 22 (.cS 4 (.t 1)) 21 false,Qg 23 (.load false 1 (.t 22)) 21 false,Qg 24 (.call 98 [.t 23,kI 1,kI 10000] [] []) 21 false,Qg 25 (.not (.t 24)) 21 false,
   Q 26 (.pick (.t 21) (kB true) (.t 25)),Qm 27 26,Qg 28 (.cS 5 (.t 1)) 27 false,Qg 29 (.load false 1 (.t 28)) 27 false,Qg 30 (.len (.t 29)) 27 false,
   Qg 31 (.bin .gtr (.t 30) (kI 10)) 27 false,Q 32 (.pick (.t 27) (kB true) (.t 31)),Qm 33 32,Qg 34 (.cS 6 (.t 1)) 33 false,Qg 35 (.load false 1 (.t 34)) 33 false,
   Qg 36 (.call 186 [.t 35,kI 40] [] []) 33 false,Qg 37 (.not (.t 36)) 33 false,Q 38 (.pick (.t 33) (kB true) (.t 37))] [1,38] [1])
 (.cond (.t 38) (.seq (.ay [Qb 2 false] [2] [])
 (.ret)) (.skip)))
 (.seq (.seq (.ay [Qi 3 0] [1,3] [1])
 (.block 0 (.loop aU.l0)))
 (.seq (.ay [Qb 2 true] [2] [])
 (.ret))))
def aU.m:Fn:={np:=1,body:=aU.b,res:=[.tmp 2]}
def aU.k(M:Nat→Option Body):Prop:=M 88=some (.code aU.m)∧cC.k M∧aX.k M∧bh.k M∧bC.k M∧de.k M∧bu.k M∧cM.k M
def aF.l0:C:= .seq (.ay [Q 9 (.bin .lss (.t 8) (.t 7))] [0,1,7,8,9] [])
 (.seq (.cond (.t 9) (.skip) (.exit 0))
 (.seq (.block 1 (.seq (.ay [Qm 10 8,Qm 5 10] [0,1,5,7,8] [])
 (.seq (.ay [Qm 11 1,Qm 12 0,Qm 13 5,Qa 14 7 12 13,QL 15 7 14,Q 16 (.lz (.t 11) [.t 15])] [0,1,5,7,8,16] [])
 (.cond (.t 16) (.seq (.ay [Qm 17 5,Qm 4 17] [4] [])
 (.ret)) (.skip)))))
 (.ay [Q 18 (.bin .add (.t 8) (kI 1)),Qm 8 18] [0,1,7,8] [])))
def aF.b:C:= .seq (.ay [Qi 4 0] [0,1] [])
 (.seq (.seq (.ay [Qm 6 0,Q 7 (.len (.t 6)),Qi 8 0] [0,1,7,8] [])
 (.block 0 (.loop aF.l0)))
 (.seq (.ay [Qi 4 (-1)] [4] [])
 (.ret)))
def aF.m:Fn:={np:=2,body:=aF.b,res:=[.tmp 4]}
def aF.k(M:Nat→Option Body):Prop:=M 200=some (.code aF.m)
def bg.l0:C:= .seq (.seq (.ay [Qm 6 5,Qf 7 2 2,Ql 8 7,Q 9 (.len (.t 8)),Q 10 (.bin .lss (.t 6) (.t 9))] [1,2,5,10] [2])
 (.cond (.t 10) (.skip) (.exit 0)))
 (.seq (.block 1 (.seq (.ay [Qf 13 2 2,Ql 14 13,Qm 15 5,Qa 16 7 14 15,Qf 17 1 16,Ql 18 17,Qm 19 1,Q 20 (.bin .eql (.t 18) (.t 19))] [1,2,5,20] [2])
 (.cond (.t 20) (.seq (.ay [Qm 21 5,Qm 4 21] [4] [])
 (.ret)) (.skip))))
 (.ay [Qm 11 5,Q 12 (.bin .add (.t 11) (kI 1)),Qm 5 12] [1,2,5] [2]))
def bg.b:C:= .seq (.ay [Qv 2 0,Qi 4 0] [1,2] [2])
 (.seq (.seq (.ay [Qi 5 0] [1,2,5] [2])
 (.block 0 (.loop bg.l0)))
 (.seq (.ay [Qi 4 (-1)] [4] [])
 (.ret)))
def bg.m:Fn:={np:=2,body:=bg.b,res:=[.tmp 4]}
def bg.k(M:Nat→Option Body):Prop:=M 226=some (.code bg.m)
def a9.l1:C:= .seq (.seq (.ay [Qm 19 6,Qf 20 5 2,Ql 21 20,Qm 22 5,Qa 23 4 21 22,Qf 24 2 23,Ql 25 24,Q 26 (.len (.t 25)),Q 27 (.bin .lss (.t 19) (.t 26))] [1,2,5,6,27] [2])
 (.cond (.t 27) (.skip) (.exit 2)))
 (.seq (.block 3 (.seq (.ay [Qf 30 5 2,Ql 31 30,Qm 32 5,Qa 33 4 31 32,Qf 34 2 33,Ql 35 34,Qm 36 6,Qa 37 3 35 36,Qf 38 1 37,Qf 39 0 38,Ql 40 39,Qm 41 1,Q 42 (.bin .gtr (.t 40) (.t 41))] [1,2,5,6,42] [2])
 (.cond (.t 42) (.seq (.ay [Qb 4 false] [4] [])
 (.ret)) (.skip))))
 (.ay [Qm 28 6,Q 29 (.bin .add (.t 28) (kI 1)),Qm 6 29] [1,2,5,6] [2]))
def a9.l0:C:= .seq (.seq (.ay [Qm 12 5,Qf 13 5 2,Ql 14 13,Q 15 (.len (.t 14)),Q 16 (.bin .lss (.t 12) (.t 15))] [1,2,5,16] [2])
 (.cond (.t 16) (.skip) (.exit 0)))
 (.seq (.block 1 (.seq (.ay [Qi 6 0] [1,2,5,6] [2])
 (.block 2 (.loop a9.l1))))
 (.ay [Qm 17 5,Q 18 (.bin .add (.t 17) (kI 1)),Qm 5 18] [1,2,5] [2]))
def a9.b:C:= .seq (.ay [Qv 2 0,Qb 4 false] [1,2] [2])
 (.seq (.seq (.ay [Qf 7 2 2,Qf 8 0 7,Ql 9 8,Qm 10 1,Q 11 (.bin .gtr (.t 9) (.t 10))] [1,2,11] [2])
 (.cond (.t 11) (.seq (.ay [Qb 4 false] [4] [])
 (.ret)) (.skip)))
 (.seq (.seq (.ay [Qi 5 0] [1,2,5] [2])
 (.block 0 (.loop a9.l0)))
 (.seq (.ay [Qb 4 true] [4] [])
 (.ret))))
def a9.m:Fn:={np:=2,body:=a9.b,res:=[.tmp 4]}
def a9.k(M:Nat→Option Body):Prop:=M 227=some (.code a9.m)
def aC.l1:C:= .seq (.seq (.ay [Qm 83 6,Qf 84 5 5,Ql 85 84,Q 86 (.len (.t 85)),Q 87 (.bin .lss (.t 83) (.t 86))] [1,3,4,5,6,87] [1,5,29,106])
 (.cond (.t 87) (.skip) (.exit 2)))
 (.seq (.block 3 (.seq (.seq (.ay [Qm 90 3,Qf 91 5 5,Ql 92 91,Qm 93 6,Qa 94 4 92 93,Qf 95 0 94,Ql 96 95,Q 97 (.call 132 [.t 90,.t 96] [] [])] [1,3,4,5,6,97] [1,5,29,106])
 (.cond (.t 97) (.seq (.ay [Qb 2 false] [2] [])
 (.ret)) (.skip)))
 (.ay [Qm 98 3,Qf 99 5 5,Ql 100 99,Qm 101 6,Qa 102 4 100 101,Qf 103 0 102,Ql 104 103,Q 105 (.cE 1 1 [.int .i64 0] [(0,.t 104)]),Q 106 (.app 1 8 (.t 98) (.t 105)),Qm 3 106] [1,3,4,5,6] [1,5,29,106])))
 (.ay [Qm 88 6,Q 89 (.bin .add (.t 88) (kI 1)),Qm 6 89] [1,3,4,5,6] [1,5,29,106]))
def aC.l0:C:= .seq (.seq (.ay [Qm 30 4,Qf 31 2 1,Ql 32 31,Q 33 (.len (.t 32)),Q 34 (.bin .lss (.t 30) (.t 33))] [1,3,4,34] [1,29,106])
 (.cond (.t 34) (.skip) (.exit 0)))
 (.seq (.block 1 (.seq (.ay [Qf 37 2 1,Ql 38 37,Qm 39 4,Qa 40 7 38 39,QL 41 7 40,Q 5 (.alloc [.int .i64 0,.str ⟨#[]⟩,.int .i64 0,.int .i64 0,.int .i64 0,.bp 4,.bp 1]),Qs 7 5 41] [1,3,4,5] [1,5,29,106])
 (.seq (.seq (.eD [QL 42 7 5,Q 43 (.call 88 [.t 42] [] []),Q 44 (.not (.t 43)),Qm 45 44,Qg 46 (.mv (.t 4)) 45 false,Qg 47 (.bin .gtr (.t 46) (kI 0)) 45 false,Qg 48 (.mv (.t 47)) 45 false,
   Qg 49 (.cS 2 (.t 1)) 48 true,Qg 50 (.load false 1 (.t 49)) 48 true,Qg 51 (.mv (.t 4)) 48 true,Qg 52 (.bin .sub (.t 51) (kI 1)) 48 true,
   Qg 53 (.eM 7 (.t 50) (.t 52)) 48 true,Qg 54 (.cS 0 (.t 53)) 48 true,Qg 55 (.load false 1 (.t 54)) 48 true,Qg 56 (.cS 0 (.t 5)) 48 true,
   Qg 57 (.load false 1 (.t 56)) 48 true,Qg 58 (.bin .geq (.t 55) (.t 57)) 48 true,Qg 59 (.pick (.t 48) (.t 58) (kB false)) 45 false,Q 60 (.pick (.t 45) (kB true) (.t 59)),
   Qm 61 60,Qg 62 (.load true 4 (.t 1)) 61 false,Qg 63 (.cS 1 (.t 5)) 61 false,Qg 64 (.load false 1 (.t 63)) 61 false,Qg 65 (.call 226 [.t 62,.t 64] [] []) 61 false,
   Qg 66 (.mv (.t 4)) 61 false,Qg 67 (.bin .neq (.t 65) (.t 66)) 61 false,Q 68 (.pick (.t 61) (kB true) (.t 67)),Qm 69 68,Qg 70 (.cS 3 (.t 1)) 69 false,
   Qg 71 (.load false 1 (.t 70)) 69 false,Qg 72 (.cS 0 (.t 5)) 69 false,Qg 73 (.load false 1 (.t 72)) 69 false,Qg 74 (.call 132 [.t 71,.t 73] [] []) 69 false,
   Q 75 (.pick (.t 69) (kB true) (.t 74)),Qm 76 75,Qg 77 (.load true 7 (.t 5)) 76 false,Qg 78 (.cS 1 (.t 1)) 76 false,Qg 79 (.load false 1 (.t 78)) 76 false,
   Qg 80 (.call 227 [.t 77,.t 79] [] []) 76 false,Qg 81 (.not (.t 80)) 76 false,Q 82 (.pick (.t 76) (kB true) (.t 81))] [[],[0],[0,1],[0,1,2],lr 4,lr 5,lr 6,lr 7,lr 8,lr 7,lr 7++[9],lr 11,lr 12,lr 13,lr 7,lr 7++[14],lr 16,lr 17,lr 18,lr 19,lr 20,lr 20,lr 20++[21],lr 23,lr 20,lr 25,lr 26,lr 27,lr 28,lr 29,lr 28,lr 28++[30],lr 32,lr 33,lr 34,lr 35,lr 35,lr 35++[36],lr 38,lr 39,lr 40] [1,3,4,5,82] [1,5,29,106])
 (.cond (.t 82) (.seq (.ay [Qb 2 false] [2] [])
 (.ret)) (.skip)))
 (.seq (.ay [Qi 6 0] [1,3,4,5,6] [1,5,29,106])
 (.block 2 (.loop aC.l1))))))
 (.ay [Qm 35 4,Q 36 (.bin .add (.t 35) (kI 1)),Qm 4 36] [1,3,4] [1,29,106]))
def aC.b:C:= .seq (.ay [Qv 1 0,Qb 2 false] [1] [1])
 (.seq (.seq (.ay [Qf 7 0 1,Ql 8 7,Q 9 (.call 98 [.t 8,kI 1,kI 2] [] []),Q 10 (.not (.t 9)),Qm 11 10,Qg 12 (.cS 1 (.t 1)) 11 false,Qg 13 (.load false 1 (.t 12)) 11 false,
   Qg 14 (.call 98 [.t 13,kI 0,kI 100000] [] []) 11 false,Qg 15 (.not (.t 14)) 11 false,Q 16 (.pick (.t 11) (kB true) (.t 15)),Qm 17 16,Qg 18 (.cS 2 (.t 1)) 17 false,
   Qg 19 (.load false 1 (.t 18)) 17 false,Qg 20 (.len (.t 19)) 17 false,Qg 21 (.bin .gtr (.t 20) (kI 5)) 17 false,Q 22 (.pick (.t 17) (kB true) (.t 21)),Qm 23 22,
   Qg 24 (.cS 3 (.t 1)) 23 false,Qg 25 (.load false 1 (.t 24)) 23 false,Qg 26 (.call 186 [.t 25,kI 20] [] []) 23 false,Qg 27 (.not (.t 26)) 23 false,
   Q 28 (.pick (.t 23) (kB true) (.t 27))] [1,28] [1])
 (.cond (.t 28) (.seq (.ay [Qb 2 false] [2] [])
 (.ret)) (.skip)))
 (.seq (.ay [Q 29 (.cE 1 0 [.int .i64 0] []),Qm 3 29] [1,3] [1,29,106])
 (.seq (.seq (.ay [Qi 4 0] [1,3,4] [1,29,106])
 (.block 0 (.loop aC.l0)))
 (.seq (.ay [Qb 2 true] [2] [])
 (.ret)))))
def aC.m:Fn:={np:=1,body:=aC.b,res:=[.tmp 2]}
def aC.k(M:Nat→Option Body):Prop:=M 149=some (.code aC.m)∧aU.k M∧bh.k M∧bC.k M∧bu.k M∧bg.k M∧a9.k M
def dv.b:C:= .seq (.ay [Q 2 (.nil 1)] [0] [])
 (.seq (.ay [Q 3 (.cE 1 0 [.int .i64 0] []),Qm 4 0,Q 5 (.app 1 8 (.t 3) (.t 4)),Qm 2 5] [2] [2,3,5])
 (.ret))
def dv.m:Fn:={np:=1,body:=dv.b,res:=[.tmp 2]}
def dv.k(M:Nat→Option Body):Prop:=M 134=some (.code dv.m)
end Mx
namespace Mx
open Go
variable {M:Nat→Option Body}
def au(l:List Int):List (List T):=l.map fun n=>[I n]
abbrev ints(l:List Int):T:= .sl false 1 (au l)
theorem xd(l:List Int):(au l).length=l.length:=by simp[au]
theorem zm(l:List Int)(i:Nat)(h:i<(au l).length):(au l)[i]=[I (l[i]'(by simpa [au] using h))]:=by simp[au]
theorem rV(a b:List Int):au a++au b=au (a++b):=by simp[au]
theorem fN:au []=[]:=rfl
theorem vj(l:List Int)(n:Nat):(au l).take n=au (l.take n):=by simp[au]
attribute [simp] xd zm rV fN vj
def upto(k:Int):Nat→List Int
 |0=>[]
 |n+1=>upto k n++[k+n]
theorem wx(k:Int)(n:Nat):(upto k n).length=n:=by
 induction n with
 |zero=>rfl
 |succ n ih=>simp[upto,ih]
attribute [simp] wx
theorem vk(l:List Int):(au l).all (fun r=>r.all T.scalar)=true:=by
 simp only[au,List.all_map,List.all_eq_true];intro n _;rfl
attribute [simp] vk
end Mx
namespace Mx
open Go
def bX.l0:C:= .seq (.seq (.ay [Qm 9 6,Qm 10 0,Q 11 (.len (.t 10)),Q 12 (.bin .lss (.t 9) (.t 11))] [0,1,5,6,12] [8,27,31,50])
 (.cond (.t 12) (.skip) (.exit 0)))
 (.seq (.block 1 (.seq (.ay [Qm 15 0,Qm 16 6,Qa 17 1 15 16,Ql 18 17,Qm 19 1,Q 20 (.bin .lss (.t 18) (.t 19))] [0,1,5,6,20] [8,27,31,50])
 (.cond (.t 20) (.ay [Qm 21 5,Qm 22 0,Qm 23 6,Qa 24 1 22 23,Ql 25 24,Q 26 (.cE 1 1 [.int .i64 0] [(0,.t 25)]),Q 27 (.app 1 8 (.t 21) (.t 26)),Qm 5 27] [0,1,5,6] [8,27,31,50]) (.skip))))
 (.ay [Qm 13 6,Q 14 (.bin .add (.t 13) (kI 1)),Qm 6 14] [0,1,5,6] [8,27,31,50]))
def bX.l1:C:= .seq (.seq (.ay [Qm 32 7,Qm 33 0,Q 34 (.len (.t 33)),Q 35 (.bin .lss (.t 32) (.t 34))] [0,1,5,7,35] [8,27,31,50])
 (.cond (.t 35) (.skip) (.exit 2)))
 (.seq (.block 3 (.seq (.ay [Qm 38 0,Qm 39 7,Qa 40 1 38 39,Ql 41 40,Qm 42 1,Q 43 (.bin .gtr (.t 41) (.t 42))] [0,1,5,7,43] [8,27,31,50])
 (.cond (.t 43) (.ay [Qm 44 5,Qm 45 0,Qm 46 7,Qa 47 1 45 46,Ql 48 47,Q 49 (.cE 1 1 [.int .i64 0] [(0,.t 48)]),Q 50 (.app 1 8 (.t 44) (.t 49)),Qm 5 50] [0,1,5,7] [8,27,31,50]) (.skip))))
 (.ay [Qm 36 7,Q 37 (.bin .add (.t 36) (kI 1)),Qm 7 37] [0,1,5,7] [8,27,31,50]))
def bX.b:C:= .seq (.ay [Q 4 (.nil 1)] [0,1] [])
 (.seq (.ay [Q 8 (.cE 1 0 [.int .i64 0] []),Qm 5 8] [0,1,5] [8,27,31,50])
 (.seq (.seq (.ay [Qi 6 0] [0,1,5,6] [8,27,31,50])
 (.block 0 (.loop bX.l0)))
 (.seq (.ay [Qm 28 5,Qm 29 1,Q 30 (.cE 1 1 [.int .i64 0] [(0,.t 29)]),Q 31 (.app 1 8 (.t 28) (.t 30)),Qm 5 31] [0,1,5] [8,27,31,50])
 (.seq (.seq (.ay [Qi 7 0] [0,1,5,7] [8,27,31,50])
 (.block 2 (.loop bX.l1)))
 (.seq (.ay [Qm 51 5,Qm 4 51] [4] [4,8,27,31,50])
 (.ret))))))
def bX.m:Fn:={np:=2,body:=bX.b,res:=[.tmp 4]}
def bX.k(M:Nat→Option Body):Prop:=M 133=some (.code bX.m)
def cH.l0:C:= .seq (.seq (.ay [Qm 11 5,Qm 12 0,Q 13 (.len (.t 12)),Q 14 (.bin .lss (.t 11) (.t 13))] [0,1,5,14] [])
 (.cond (.t 14) (.skip) (.exit 0)))
 (.seq (.block 1 (.seq (.eD [Qm 17 0,Qm 18 5,Qa 19 1 17 18,Ql 20 19,Qm 21 1,Qm 22 5,Qa 23 1 21 22,Ql 24 23,Q 25 (.bin .neq (.t 20) (.t 24))] [[],[],[0,1],[0,1,2],[],[],[4,5],[4,5,6],lr 8] [0,1,5,25] [])
 (.cond (.t 25) (.seq (.ay [Qb 4 false] [4] [])
 (.ret)) (.skip))))
 (.ay [Qm 15 5,Q 16 (.bin .add (.t 15) (kI 1)),Qm 5 16] [0,1,5] []))
def cH.b:C:= .seq (.ay [Qb 4 false] [0,1] [])
 (.seq (.seq (.ay [Qm 6 0,Q 7 (.len (.t 6)),Qm 8 1,Q 9 (.len (.t 8)),Q 10 (.bin .neq (.t 7) (.t 9))] [0,1,10] [])
 (.cond (.t 10) (.seq (.ay [Qb 4 false] [4] [])
 (.ret)) (.skip)))
 (.seq (.seq (.ay [Qi 5 0] [0,1,5] [])
 (.block 0 (.loop cH.l0)))
 (.seq (.ay [Qb 4 true] [4] [])
 (.ret))))
def cH.m:Fn:={np:=2,body:=cH.b,res:=[.tmp 4]}
def cH.k(M:Nat→Option Body):Prop:=M 158=some (.code cH.m)
def dp.b:C:= .seq (.ay [Q 2 (.nil 3)] [0] [])
 (.seq (.ay [Q 3 (.cE 3 0 [.int .i64 0,.int .i64 0,.int .i64 0] []),Qm 4 0,Q 5 (.app 3 24 (.t 3) (.t 4)),Qm 2 5] [2] [2,3,5])
 (.ret))
def dp.m:Fn:={np:=1,body:=dp.b,res:=[.tmp 2]}
def dp.k(M:Nat→Option Body):Prop:=M 241=some (.code dp.m)
def dK.b:C:= .seq (.ay [Qv 1 0,Q 2 (.alloc [.int .i64 0,.int .i64 0,.bp 3,.str ⟨#[]⟩])] [1,2] [1,2,10500])
 (.seq (.ay [Qf 3 2 1,Ql 4 3,Q 5 (.call 241 [.t 4] [] [(0,10500)]),Qf 6 2 1,Qs 1 6 5] [1,2] [1,2,10500])
 (.seq (.ay [QL 7 4 1,Qs 4 2 7] [2] [2,10500])
 (.ret)))
def dK.m:Fn:={np:=1,body:=dK.b,res:=[.cell 2 true 4]}
def dK.k(M:Nat→Option Body):Prop:=M 238=some (.code dK.m)∧dp.k M
def bD.l0:C:= .seq (.seq (.ay [Qm 8 4,Qf 9 5 1,Ql 10 9,Q 11 (.len (.t 10)),Q 12 (.bin .lss (.t 8) (.t 11))] [1,2,3,4,12] [1,2,3,6,24,26,29])
 (.cond (.t 12) (.skip) (.exit 0)))
 (.seq (.block 1 (.eD [Qf 15 5 3,Ql 16 15,Qf 17 5 1,Ql 18 17,Qm 19 4,Qa 20 4 18 19,QL 21 4 20,Q 22 (.call 238 [.t 21] [] []),
   Q 23 (.cE 4 1 [.int .i64 0,.int .i64 0,.bp 3,.str ⟨#[]⟩] [(0,.t 22)]),Q 24 (.app 4 56 (.t 16) (.t 23)),Qf 25 5 3,Qs 1 25 24] [[],[0],[],[2],[],[2,3,4],[2,3,4,5],[2,3,4,5,6],[2,3,4,5,6,7],lr 9,lr 10,lr 11] [1,2,3,4] [1,2,3,6,24,26,29]))
 (.ay [Qm 13 4,Q 14 (.bin .add (.t 13) (kI 1)),Qm 4 14] [1,2,3,4] [1,2,3,6,24,26,29]))
def bD.b:C:= .seq (.ay [Qv 1 0,Q 2 (.alloc [.int .i64 0,.str ⟨#[]⟩,.int .i64 0,.int .i64 0,.int .i64 0,.bp 4,.bp 1])] [1,2] [1,2,6,24,26,29])
 (.seq (.ay [QL 5 7 1,Q 3 (.alloc [.int .i64 0,.str ⟨#[]⟩,.int .i64 0,.int .i64 0,.int .i64 0,.bp 4,.bp 1]),Qs 7 3 5] [1,2,3] [1,2,3,6,24,26,29])
 (.seq (.ay [Q 6 (.cE 4 0 [.int .i64 0,.int .i64 0,.bp 3,.str ⟨#[]⟩] []),Qf 7 5 3,Qs 1 7 6] [1,2,3] [1,2,3,6,24,26,29])
 (.seq (.seq (.ay [Qi 4 0] [1,2,3,4] [1,2,3,6,24,26,29])
 (.block 0 (.loop bD.l0)))
 (.seq (.ay [Q 26 (.cE 1 0 [.int .i64 0] []),Qf 27 6 1,Ql 28 27,Q 29 (.app 1 8 (.t 26) (.t 28)),Qf 30 6 3,Qs 1 30 29] [2,3] [2,3,6,24,26,29])
 (.seq (.ay [QL 31 7 3,Qs 7 2 31] [2] [2,6,24,26,29])
 (.ret))))))
def bD.m:Fn:={np:=1,body:=bD.b,res:=[.cell 2 true 7]}
def bD.k(M:Nat→Option Body):Prop:=M 180=some (.code bD.m)∧dK.k M
def cW.l0:C:= .seq (.seq (.ay [Qm 9 6,Q 10 (.bin .lss (.t 9) (kI 3))] [0,3,5,6,10] [3,8,24])
 (.cond (.t 10) (.skip) (.exit 0)))
 (.seq (.block 1 (.seq (.ay [Qi 7 0] [0,3,5,6,7] [3,8,24])
 (.seq (.seq (.ay [Qm 13 0,Qm 14 6,Q 15 (.qL .u64 (.t 14)),Q 16 (.bin .shr (.t 13) (.t 15)),Q 17 (.bin .rem (.t 16) (kI 2)),Q 18 (.bin .neq (.t 17) (kI 0))] [0,3,5,6,7,18] [3,8,24])
 (.cond (.t 18) (.ay [Qi 7 1] [0,3,5,6,7] [3,8,24]) (.skip)))
 (.ay [Qm 19 5,Qm 20 7,QL 21 2 3,Q 22 (.build [.int .i64 0,.int .i64 0,.int .i64 0] [(0,1,.t 20),(1,2,.t 21)]),
   Q 23 (.cE 3 1 [.int .i64 0,.int .i64 0,.int .i64 0] [(0,.t 22)]),Q 24 (.app 3 24 (.t 19) (.t 23)),Qm 5 24] [0,3,5,6] [3,8,24]))))
 (.ay [Qm 11 6,Q 12 (.bin .add (.t 11) (kI 1)),Qm 6 12] [0,3,5,6] [3,8,24]))
def cW.b:C:= .seq (.ay [Qv 3 1,Q 4 (.nil 3)] [0,3] [3])
 (.seq (.ay [Q 8 (.cE 3 0 [.int .i64 0,.int .i64 0,.int .i64 0] []),Qm 5 8] [0,3,5] [3,8,24])
 (.seq (.seq (.ay [Qi 6 0] [0,3,5,6] [3,8,24])
 (.block 0 (.loop cW.l0)))
 (.seq (.ay [Qm 25 5,Qm 4 25] [4] [4,8,24])
 (.ret))))
def cW.m:Fn:={np:=2,body:=cW.b,res:=[.tmp 4]}
def cW.k(M:Nat→Option Body):Prop:=M 181=some (.code cW.m)
def cd.b:C:= .seq (.ay [Qv 5 0,Qv 9 4,Q 10 (.alloc [.int .i64 0,.str ⟨#[]⟩,.int .i64 0,.int .i64 0,.int .i64 0,.bp 4,.bp 1]),Qb 11 false] [1,2,3,5,9,10] [5,9,10,47,11405,11406,15705,15706])
 (.seq (.ay [QL 13 7 5,Q 14 (.call 180 [.t 13] [] [(5,11405),(6,11406)]),Q 12 (.alloc [.int .i64 0,.str ⟨#[]⟩,.int .i64 0,.int .i64 0,.int .i64 0,.bp 4,.bp 1]),Qs 7 12 14] [1,2,3,5,9,10,12] [5,9,10,12,47,11405,11406,15705,15706])
 (.seq (.seq (.ay [QL 15 7 5,Q 16 (.call 88 [.t 15] [] []),Q 17 (.not (.t 16)),Qm 18 17,Qg 19 (.load true 7 (.t 5)) 18 false,Qg 20 (.mv (.t 1)) 18 false,
   Qg 21 (.call 91 [.t 19,.t 20] [] []) 18 false,Qg 22 (.bin .geq (.t 21) (kI 0)) 18 false,Q 23 (.pick (.t 18) (kB true) (.t 22)),Qm 24 23,Qg 25 (.cS 6 (.t 5)) 24 false,
   Qg 26 (.load false 1 (.t 25)) 24 false,Qg 27 (.mv (.t 1)) 24 false,Qg 28 (.call 132 [.t 26,.t 27] [] []) 24 false,Q 29 (.pick (.t 24) (kB true) (.t 28)),Qm 30 29,
   Qg 31 (.mv (.t 2)) 30 false,Qg 32 (.call 98 [.t 31,kI 0,kI 7] [] []) 30 false,Qg 33 (.not (.t 32)) 30 false,Q 34 (.pick (.t 30) (kB true) (.t 33))] [1,2,3,5,9,10,12,34] [5,9,10,12,47,11405,11406,15705,15706])
 (.cond (.t 34) (.seq (.ay [QL 35 7 12,Qs 7 10 35,Qb 11 false] [10,11] [10,47,11405,11406,15705,15706])
 (.ret)) (.skip)))
 (.seq (.eD [Qf 36 5 12,Ql 37 36,Qm 38 1,Qf 39 4 5,Ql 40 39,Qm 41 2,QL 42 2 9,Q 43 (.call 181 [.t 41,.t 42] [] []),Qm 44 3,
   Q 45 (.build [.int .i64 0,.int .i64 0,.bp 3,.str ⟨#[]⟩] [(0,1,.t 38),(1,1,.t 40),(2,1,.t 43),(3,1,.t 44)]),
   Q 46 (.cE 4 1 [.int .i64 0,.int .i64 0,.bp 3,.str ⟨#[]⟩] [(0,.t 45)]),Q 47 (.app 4 56 (.t 37) (.t 46)),Qf 48 5 12,Qs 1 48 47] [[],[0],[],[],[3],[],[],[5,6],[],[2,3,4,5,6,7,8],[2,3,4,5,6,7,8,9],lr 11,lr 12,lr 13] [5,10,12] [5,10,12,47,11405,11406,15705,15706])
 (.seq (.ay [Qf 49 4 5,Ql 50 49,Q 51 (.bin .add (.t 50) (kI 1)),Qf 52 4 12,Qs 1 52 51] [5,10,12] [5,10,12,47,11405,11406,15705,15706])
 (.seq (.seq (.ay [QL 53 7 12,Q 54 (.call 88 [.t 53] [] []),Q 55 (.not (.t 54))] [5,10,12,55] [5,10,12,47,11405,11406,15705,15706])
 (.cond (.t 55) (.seq (.ay [QL 56 7 5,Q 57 (.call 180 [.t 56] [] [(5,15705),(6,15706)]),Qs 7 10 57,Qb 11 false] [10,11] [10,47,11405,11406,15705,15706])
 (.ret)) (.skip)))
 (.seq (.ay [QL 58 7 12,Qs 7 10 58,Qb 11 true] [10,11] [10,47,11405,11406,15705,15706])
 (.ret)))))))
def cd.m:Fn:={np:=5,body:=cd.b,res:=[.cell 10 true 7,.tmp 11]}
def cd.k(M:Nat→Option Body):Prop:=M 81=some (.code cd.m)∧aU.k M∧aX.k M∧bh.k M∧bC.k M∧bD.k M∧cW.k M
def eb.b:C:= .seq (.ay [Qv 2 0,Qv 3 1,Qb 4 false] [2,3] [2,3])
 (.seq (.seq (.ay [Qf 5 0 2,Ql 6 5,Qf 7 0 3,Ql 8 7,Q 9 (.bin .neq (.t 6) (.t 8))] [2,3,9] [2,3])
 (.cond (.t 9) (.seq (.ay [Qf 10 0 2,Ql 11 10,Qf 12 0 3,Ql 13 12,Q 14 (.bin .gtr (.t 11) (.t 13)),Qm 4 14] [4] [])
 (.ret)) (.skip)))
 (.seq (.ay [Qf 15 1 2,Ql 16 15,Qf 17 1 3,Ql 18 17,Q 19 (.bin .gtr (.t 16) (.t 18)),Qm 4 19] [4] [])
 (.ret)))
def eb.m:Fn:={np:=2,body:=eb.b,res:=[.tmp 4]}
def eb.k(M:Nat→Option Body):Prop:=M 277=some (.code eb.m)
def dU.b:C:= .seq (.ay [Qv 3 0,Qv 5 2,Q 6 (.alloc [.int .i64 0,.int .i64 0,.int .i64 0])] [1,3,5,6] [3,5,6])
 (.seq (.ay [Qm 8 1,QL 9 2 5,Q 10 (.build [.int .i64 0,.int .i64 0,.int .i64 0] [(0,1,.t 8),(1,2,.t 9)]),Q 7 (.alloc [.int .i64 0,.int .i64 0,.int .i64 0]),Qs 3 7 10] [3,5,6,7] [3,5,6,7])
 (.seq (.seq (.ay [QL 11 2 5,Qf 12 1 3,QL 13 2 12,Q 14 (.call 277 [.t 11,.t 13] [] []),Q 15 (.not (.t 14)),Qm 16 15,Qg 17 (.load true 3 (.t 7)) 16 false,
   Qg 18 (.call 276 [.t 17] [] []) 16 false,Qg 19 (.not (.t 18)) 16 false,Q 20 (.pick (.t 16) (kB true) (.t 19))] [3,6,7,20] [3,6,7])
 (.cond (.t 20) (.seq (.ay [QL 21 3 3,Qs 3 6 21] [6] [6])
 (.ret)) (.skip)))
 (.seq (.ay [QL 22 3 7,Qs 3 6 22] [6] [6])
 (.ret))))
def dU.m:Fn:={np:=3,body:=dU.b,res:=[.cell 6 true 3]}
def dU.k(M:Nat→Option Body):Prop:=M 243=some (.code dU.m)∧dT.k M∧eb.k M
def bG.l0:C:= .seq (.seq (.ay [Qm 21 8,Qm 22 7,Q 23 (.len (.t 22)),Q 24 (.bin .lss (.t 21) (.t 23))] [1,5,7,8,24] [5,11100])
 (.cond (.t 24) (.skip) (.exit 0)))
 (.seq (.block 1 (.seq (.ay [Qm 27 1,Qm 28 8,Q 29 (.qL .u64 (.t 28)),Q 30 (.bin .shr (.t 27) (.t 29)),Q 31 (.bin .rem (.t 30) (kI 2)),Qm 9 31] [1,5,7,8,9] [5,11100])
 (.seq (.ay [Qm 32 7,Qm 33 8,Qa 34 3 32 33,Qf 35 0 34,Ql 36 35,Qm 37 9,Q 38 (.bin .neq (.t 36) (.t 37))] [1,5,7,8,9,38] [5,11100])
 (.cond (.t 38) (.eD [Qm 39 7,Qm 40 8,Qm 41 7,Qm 42 8,Qa 43 3 41 42,QL 44 3 43,Qm 45 9,QL 46 2 5,Q 47 (.call 243 [.t 44,.t 45,.t 46] [] []),Qa 48 3 39 40,Qs 3 48 47] [[],[],[],[],[2,3],[2,3,4],[],[],[2,3,4,5,6,7],lr 9,lr 10] [1,5,7,8] [5,11100]) (.skip)))))
 (.ay [Qm 25 8,Q 26 (.bin .add (.t 25) (kI 1)),Qm 8 26] [1,5,7,8] [5,11100]))
def bG.b:C:= .seq (.ay [Qv 5 2,Q 6 (.nil 3)] [0,1,5] [5])
 (.seq (.ay [Qm 10 0,Q 11 (.call 241 [.t 10] [] [(0,11100)]),Qm 7 11] [0,1,5,7] [5,11100])
 (.seq (.seq (.ay [Qm 12 0,Q 13 (.call 242 [.t 12] [] []),Q 14 (.not (.t 13)),Qm 15 14,Qg 16 (.mv (.t 1)) 15 false,Qg 17 (.call 98 [.t 16,kI 0,kI 7] [] []) 15 false,
   Qg 18 (.not (.t 17)) 15 false,Q 19 (.pick (.t 15) (kB true) (.t 18))] [1,5,7,19] [5,11100])
 (.cond (.t 19) (.seq (.ay [Qm 20 7,Qm 6 20] [6] [6,11100])
 (.ret)) (.skip)))
 (.seq (.seq (.ay [Qi 8 0] [1,5,7,8] [5,11100])
 (.block 0 (.loop bG.l0)))
 (.seq (.ay [Qm 49 7,Qm 6 49] [6] [6,11100])
 (.ret)))))
def bG.m:Fn:={np:=3,body:=bG.b,res:=[.tmp 6]}
def bG.k(M:Nat→Option Body):Prop:=M 184=some (.code bG.m)∧bh.k M∧dp.k M∧bZ.k M∧dU.k M
def b_.b:C:= .seq (.ay [Qv 4 0,Qv 7 3,Q 8 (.alloc [.int .i64 0,.str ⟨#[]⟩,.int .i64 0,.int .i64 0,.int .i64 0,.bp 4,.bp 1]),Qb 9 false] [1,2,4,7,8] [4,7,8,11305,11306])
 (.seq (.ay [QL 12 7 4,Q 13 (.call 180 [.t 12] [] [(5,11305),(6,11306)]),Q 10 (.alloc [.int .i64 0,.str ⟨#[]⟩,.int .i64 0,.int .i64 0,.int .i64 0,.bp 4,.bp 1]),Qs 7 10 13] [1,2,4,7,8,10] [4,7,8,10,11305,11306])
 (.seq (.ay [QL 14 7 4,Qm 15 1,Q 16 (.call 91 [.t 14,.t 15] [] []),Qm 11 16] [2,4,7,8,10,11] [4,7,8,10,11305,11306])
 (.seq (.seq (.ay [QL 17 7 4,Q 18 (.call 88 [.t 17] [] []),Q 19 (.not (.t 18)),Qm 20 19,Qg 21 (.mv (.t 11)) 20 false,Qg 22 (.bin .lss (.t 21) (kI 0)) 20 false,
   Q 23 (.pick (.t 20) (kB true) (.t 22)),Qm 24 23,Qg 25 (.mv (.t 2)) 24 false,Qg 26 (.call 98 [.t 25,kI 0,kI 7] [] []) 24 false,Qg 27 (.not (.t 26)) 24 false,
   Q 28 (.pick (.t 24) (kB true) (.t 27)),Qm 29 28,Qg 30 (.load true 2 (.t 7)) 29 false,Qg 31 (.call 183 [.t 30] [] []) 29 false,Qg 32 (.not (.t 31)) 29 false,
   Q 33 (.pick (.t 29) (kB true) (.t 32))] [2,4,7,8,10,11,33] [4,7,8,10,11305,11306])
 (.cond (.t 33) (.seq (.ay [QL 34 7 10,Qs 7 8 34,Qb 9 false] [8,9] [8,11305,11306])
 (.ret)) (.skip)))
 (.seq (.eD [Qf 35 5 10,Ql 36 35,Qm 37 11,Qf 38 5 4,Ql 39 38,Qm 40 11,Qa 41 4 39 40,Qf 42 2 41,Ql 43 42,Qm 44 2,QL 45 2 7,Q 46 (.call 184 [.t 43,.t 44,.t 45] [] []),Qa 47 4 36 37,
   Qf 48 2 47,Qs 1 48 46] [[],[0],[],[],[3],[],[3,4,5],[3,4,5,6],[3,4,5,6,7],[],[],[3,4,5,6,7,8,9,10],lr 12,lr 13,lr 14] [8,10] [8,10,11305,11306])
 (.seq (.ay [QL 49 7 10,Qs 7 8 49,Qb 9 true] [8,9] [8,11305,11306])
 (.ret))))))
def b_.m:Fn:={np:=4,body:=b_.b,res:=[.cell 8 true 7,.tmp 9]}
def b_.k(M:Nat→Option Body):Prop:=M 84=some (.code b_.m)∧aU.k M∧aX.k M∧bh.k M∧bD.k M∧de.k M∧bG.k M
def bT.b:C:= .seq (.ay [Qv 2 0,Q 4 (.alloc [.int .i64 0,.str ⟨#[]⟩,.int .i64 0,.int .i64 0,.int .i64 0,.bp 4,.bp 1]),Qb 5 false] [1,2,4] [2,4,27,32,38,10905,10906,14300])
 (.seq (.ay [QL 8 7 2,Q 9 (.call 180 [.t 8] [] [(5,10905),(6,10906)]),Q 6 (.alloc [.int .i64 0,.str ⟨#[]⟩,.int .i64 0,.int .i64 0,.int .i64 0,.bp 4,.bp 1]),Qs 7 6 9] [1,2,4,6] [2,4,6,27,32,38,10905,10906,14300])
 (.seq (.ay [QL 10 7 2,Qm 11 1,Q 12 (.call 91 [.t 10,.t 11] [] []),Qm 7 12] [1,2,4,6,7] [2,4,6,27,32,38,10905,10906,14300])
 (.seq (.seq (.ay [QL 13 7 2,Q 14 (.call 88 [.t 13] [] []),Q 15 (.not (.t 14)),Qm 16 15,Qg 17 (.mv (.t 7)) 16 false,Qg 18 (.bin .lss (.t 17) (kI 0)) 16 false,
   Q 19 (.pick (.t 16) (kB true) (.t 18)),Qm 20 19,Qg 21 (.cS 6 (.t 2)) 20 false,Qg 22 (.load false 1 (.t 21)) 20 false,Qg 23 (.len (.t 22)) 20 false,
   Qg 24 (.bin .geq (.t 23) (kI 40)) 20 false,Q 25 (.pick (.t 20) (kB true) (.t 24))] [1,2,4,6,7,25] [2,4,6,27,32,38,10905,10906,14300])
 (.cond (.t 25) (.seq (.ay [QL 26 7 6,Qs 7 4 26,Qb 5 false] [4,5] [4,27,32,38,10905,10906,14300])
 (.ret)) (.skip)))
 (.seq (.eD [Q 27 (.cE 4 0 [.int .i64 0,.int .i64 0,.bp 3,.str ⟨#[]⟩] []),Qf 28 5 6,Ql 29 28,Qm 30 7,Q 31 (.tW 4 (.t 29) none (some (.t 30)) none),
   Q 32 (.app 4 56 (.t 27) (.t 31)),Qf 33 5 6,Ql 34 33,Qm 35 7,Q 36 (.bin .add (.t 35) (kI 1)),Q 37 (.tW 4 (.t 34) (some (.t 36)) none none),Q 38 (.app 4 56 (.t 32) (.t 37)),
   Qf 39 5 6,Qs 1 39 38] [[],[],[1],[],[1,2,3],lr 5,[],[6],[],[8],[6,7,8,9],lr 11,lr 12,lr 13] [1,2,4,6] [2,4,6,27,32,38,10905,10906,14300])
 (.seq (.ay [Qf 40 6 2,Ql 41 40,Qm 42 1,Q 43 (.call 133 [.t 41,.t 42] [] [(0,14300)]),Qf 44 6 6,Qs 1 44 43] [4,6] [4,6,27,32,38,10905,10906,14300])
 (.seq (.ay [QL 45 7 6,Qs 7 4 45,Qb 5 true] [4,5] [4,27,32,38,10905,10906,14300])
 (.ret)))))))
def bT.m:Fn:={np:=2,body:=bT.b,res:=[.cell 4 true 7,.tmp 5]}
def bT.k(M:Nat→Option Body):Prop:=M 86=some (.code bT.m)∧aU.k M∧aX.k M∧bX.k M∧bD.k M
end Mx
