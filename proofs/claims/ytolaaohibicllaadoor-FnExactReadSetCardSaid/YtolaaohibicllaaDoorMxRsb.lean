/-
  What more of the functions compute, each by a small evaluation; no condition beyond what each says.
-/
import Derived.Orders
import Derived.LoopN
import Derived.Lib.IndexMore
import Derived.Lib.Split
import Derived.Below
import Derived.Carry
import Derived.Deep.Slices
import Derived.ChangeArms
import Derived.WalkKit
import Derived.ProofKit
import Derived.OpenShut
import Derived.ShutString
import Derived.ChangeOld
import Derived.SizedLaws
import Derived.Lib.Bytealg
import Derived.Sort.Row
import Derived.Sort.Grow
import Derived.Lib.SlicesCompact
import Derived.Test.YtolaaohibicllaaDoorMxRs
set_option maxHeartbeats 16000000
set_option linter.unusedSimpArgs false
set_option linter.unusedVariables false
namespace Mx
open Go
variable {P:Program} {F:Nat→FuncId} {Pr:Nat→Prop} {w0:World} {lb:Lb} {N:Nat} {E:Nat→Option Loc} {n:Nat} {t:List (Nat×V)} {o:List (Nat×Ob)} {a:Act} {w:World}
def fh(X Y:Cx):Prop:=∀t v,aH t→bc X t v→bc Y t v
structure Home (X Y:Cx) (own:Nat→Option Loc) (lent:List (Nat×Ob)) (n:Nat) (lmap:List (Nat×Nat×Nat)) (thaw:List (Nat×Nat)):Prop where
 heap:Y.w=X.w
 mJ:∀q id,get thaw q=some id→Y.E (n+q)=own q
 free:∀q b cap sz,get thaw q=none→own q=some (.bQ b cap sz)→¬Y.U b
 kL:∀p id ar,get lmap p=some (id,ar)→∃ob,get lent p=some ob∧∀l,X.E p=some l→Y.E ar=some l
def gU(X:Cx)(own:Nat→Option Loc)(n:Nat)(thaw:List (Nat×Nat))(fl:Bool)(u:Nat×Ob):Prop:=
 ∃q l,get thaw q=some u.1∧own q=some l∧u.2.ar=n+q∧u.2.w=true∧(∀(i j:Nat) (r:List T) (t:T),u.2.rows[i]? =some r→r[j]? =some t→aH t)∧cD X u.2 l∧(fl=true→u.2.rows.all (fun r=>r.all T.scalar)=true)
theorem cD.ar{X:Cx}{ob ob':Ob}{l:Loc}(h:cD X ob l)(h1:ob'.rows=ob.rows)(h2:ob'.sz=ob.sz)(h3:ob'.bx=ob.bx):cD X ob' l:=by
 cases l with
 |nil=>exact⟨by rw[h1];exact h.1,by rw[h3];exact h.2⟩
 |bQ b cap sz=>exact⟨by rw[h2];exact h.1,h.2.move rfl h1 h2 (by rw[h1,h3];exact h.2.cl) fun i j r t v _ _ hv=>hv⟩
theorem eO{rows:List (List T)}(h:rows.all (fun r=>r.all T.scalar)=true){i j:Nat}{r:List T}{t:T}(hi:rows[i]? =some r)(hj:r[j]? =some t):t.scalar=true:=by
 simp only[ao] at h;exact h r (bu hi) t (bu hj)
theorem nZ{X Y:Cx}{sz:Nat}{rows:List (List T)}{l:Loc}(hr:cD X {ar:=0,sz:=sz,w:=true,bx:=false,rows:=rows} l)(hw:Y.w=X.w)(hu:∀b cap sz,l= .bQ b cap sz→¬Y.U b)
  (hm:fh X Y∨rows.all (fun r=>r.all T.scalar)=true):bc Y (.sl false sz rows) (mz l rows.length):=by
 cases l with
 |nil=>
  obtain⟨h,_⟩:=hr;simp only at h;subst h;exact bc.empty (X:=Y) false sz none 0
 |bQ b cap sz'=>
  obtain⟨e,hl,hwid,hcl,cs,e1,fr,m1,m2,m3,m4⟩:=hr;simp only at e hl hwid hcl m2 m4;subst e;refine .sl false sz' rows (some (aY b)) cap (fun i j=>cs.getD (i*sz'+j) undef) hl hwid ?_ ?_ (hcl trivial)
  ·intro i j r t hi ht;obtain⟨v,hv,_⟩:=m4 i j r t hi ht;refine⟨_,rfl,hu b cap sz' rfl, ?_⟩;rw[cw,hw];simp only[World.cell?,m1,Option.isSome_none,aD,if_false,ax,hv];rfl
  ·intro i j r t hi ht;obtain⟨v,hv,hrep⟩:=m4 i j r t hi ht;simp only[ax,hv,bF];rcases hm with hm|hm
   ·exact hm _ _ (hcl trivial i j r t hi ht) hrep
   ·exact hrep.scalar (eO hm hi ht)
theorem jE{X Y:Cx}{own:Nat→Option Loc}{lent:List (Nat×Ob)}{lmap:List (Nat×Nat×Nat)}{thaw:List (Nat×Nat)}{q:Nat}{x y:T}{aK:List (Nat×Ob)}{v:Value}{fl:Bool}
  (H:Home X Y own lent n lmap thaw) (hm:fh X Y∨fl=true) (hf:fl=true→dw x=true) (h:dy n lmap thaw q x=some (y,aK)) (hr:eP X own lent q x v):
  bc Y y v∧∀u∈aK,gU X own n thaw fl u:=by
 cases hr with
 |int k m=>simp[dy] at h;obtain⟨rfl,rfl⟩:=h;exact⟨.int _ _,fun u hu=>by simp at hu⟩
 |bool b=>simp[dy] at h;obtain⟨rfl,rfl⟩:=h;exact⟨.bool _,fun u hu=>by simp at hu⟩
 |str s=>simp[dy] at h;obtain⟨rfl,rfl⟩:=h;exact⟨.str _,fun u hu=>by simp at hu⟩
 |own sz rows l ho hl=>
  simp only[dy] at h;split at h
  ·rename_i id hid;simp only[if_true,af,ah] at h;obtain⟨rfl,rfl⟩:=h;have hE:=H.mJ q id hid;rw[ho] at hE;refine⟨?_,fun u hu=> ?_⟩
   ·cases l with
    |nil=>
     have:=hl.1;simp only at this;subst this;exact .cI id (n+q) hE
    |bQ b cap sz'=>
     have hlen:rows.length≤cap:=hl.2.len;have:=cg (X:=Y) (id:=id) (ar:=n+q) hE hlen;exact this
   ·simp only[qg] at hu;subst hu;exact⟨q,l,hid,ho,rfl,rfl,(match l,hl with| .nil,hl=>fun i j r t hi _=>(by have:=hl.1;simp only at this;subst this;simp at hi)| .bQ _ _ _,hl=>hl.2.cl rfl),hl.ar rfl rfl rfl,fun hfl=>by have:=hf hfl;simpa [dw] using this⟩
  ·rename_i hid;simp only[af,ah] at h;obtain⟨rfl,rfl⟩:=h;exact⟨nZ hl H.heap (fun b cap sz e=>H.free q b cap sz hid (by rw[ho,e])) (hm.imp id fun k=>by have:=hf k;simpa [dw] using this),fun u hu=>by simp at hu⟩
 |box cells b cap ho hl hc=>
  simp only[dy] at h;split at h
  ·rename_i id hid;simp only[af,ah] at h;obtain⟨rfl,rfl⟩:=h;have hE:=H.mJ q id hid;rw[ho] at hE;refine⟨?_,fun u hu=> ?_⟩
   ·have:=bc.ptr (X:=Y) id (n+q) 0 0 b cap cells.length hE;simpa [add_zero] using this
   ·simp only[qg] at hu;subst hu;refine⟨q,_,hid,ho,rfl,rfl,fun i j r t hi ht=> ?_,hl.ar rfl rfl rfl,fun hfl=>by have:=hf hfl;simp[dw] at this⟩;cases i with
    |zero=>simp at hi;subst hi;exact hc j t ht
    |succ i=>simp at hi
  ·cases h
 |sh sz rows _ hs=>
  simp only[dy] at h;split at h
  ·simp at h
  ·simp only[af,ah] at h;obtain⟨rfl,rfl⟩:=h;refine⟨?_,fun u hu=>by simp at hu⟩;rcases hm with hm|hm
   ·refine hm _ _ ?_ hs;cases hs with|sl _ _ _ A c vs h1 h2 h3 h4 h5=>exact .sl _ _ _ h5
   ·have:=hf hm;simp[dw] at this
 |row p ar off len _ hs=>
  simp only[dy] at h;split at h
  ·rename_i id ver' hp;simp only[af,ah] at h;obtain⟨rfl,rfl⟩:=h;obtain⟨ob,h1,h2⟩:=H.kL p id ver' hp;refine⟨?_,fun u hu=>by simp at hu⟩;have:=hs ob h1;cases this with
   |row _ _ _ _ cap sz b hE hl ho=>exact .row _ _ off len cap sz b (h2 _ hE) hl ho
   |cI _ _ hE=>exact .cI _ _ (h2 _ hE)
  ·cases h
theorem jF{X Y:Cx}{own:Nat→Option Loc}{lent:List (Nat×Ob)}{lmap:List (Nat×Nat×Nat)}{thaw:List (Nat×Nat)}{fl:Bool}
  (H:Home X Y own lent n lmap thaw) (hm:fh X Y∨fl=true):∀{q:Nat} {xs ys:List T} {aK:List (Nat×Ob)} {vs:List Value},(fl=true→xs.all dw=true)→ff n lmap thaw q xs=some (ys,aK)→lX X own lent q xs vs→
  aP Y ys vs∧∀u∈aK,gU X own n thaw fl u
 |q,[],ys,aK,vs,hf,h,hr=>by
  simp[ff] at h;obtain⟨rfl,rfl⟩:=h;cases vs with
  |nil=>exact⟨.nil Y,fun u hu=>by simp at hu⟩
  |cons=>simp[lX] at hr
 |q,x::xs,ys,aK,vs,hf,h,hr=>by
  cases vs with
  |nil=>simp[lX] at hr
  |cons v vs=>
   simp only[ff] at h;split at h
   ·rename_i y u1 h1;split at h
    ·rename_i ys' u2 h2;simp only[af,ah] at h;obtain⟨rfl,rfl⟩:=h;obtain⟨r1,r2⟩:=hr;have hf':=fun k=>by have:=hf k;simpa [List.all_cons,ae] using this
     obtain⟨a1,a2⟩:=jE H hm (fun k=>(hf' k).1) h1 r1;obtain⟨b1,b2⟩:=jF H hm (fun k=>by simpa using(hf' k).2) h2 r2;refine⟨.cons a1 b1,fun u hu=> ?_⟩;rcases List.mem_append.1 hu with q|q
     ·exact a2 u q
     ·exact b2 u q
    ·cases h
   ·cases h
def V.oZ:V→Bool
 | .c t=>dw t
 | .a ts=>ts.all dw
 |_=>false
theorem gT{X Y:Cx}{own:Nat→Option Loc}{lent:List (Nat×Ob)}{lmap:List (Nat×Nat×Nat)}{thaw:List (Nat×Nat)}{fl:Bool}{q q':Nat}{x y:V}{aK:List (Nat×Ob)}{v:Value}
  (H:Home X Y own lent n lmap thaw) (hm:fh X Y∨fl=true) (hf:fl=true→x.oZ=true) (h:eb n lmap thaw q x=some (y,aK,q')) (hr:iX X own lent q x v):
  bm Y y v∧q'=q+x.width∧∀u∈aK,gU X own n thaw fl u:=by
 cases x with
 |c x=>
  simp only[eb] at h;split at h
  ·rename_i t' u1 h1;simp only[af,ah] at h;obtain⟨rfl,rfl,rfl⟩:=h;obtain⟨a1,a2⟩:=jE H hm hf h1 hr;exact⟨.c _ _ a1,rfl,a2⟩
  ·cases h
 |a xs=>
  simp only[eb] at h;split at h
  ·rename_i ys u1 h1;simp only[af,ah] at h;obtain⟨rfl,rfl,rfl⟩:=h;cases v with
   |agg cs=>
    obtain⟨a1,a2⟩:=jF H hm hf h1 hr;have:=bm.po a1;exact⟨by simpa using this,rfl,a2⟩
   |_=>simp[iX] at hr
  ·cases h
 |fj=>simp[eb] at h
 |undef=>simp[eb] at h
theorem il{X Y:Cx}{own:Nat→Option Loc}{lent:List (Nat×Ob)}{lmap:List (Nat×Nat×Nat)}{thaw:List (Nat×Nat)}{fl:Bool}
  (H:Home X Y own lent n lmap thaw) (hm:fh X Y∨fl=true):∀{q:Nat} {xs ys:List V} {aK:List (Nat×Ob)} {vs:List Value},(fl=true→xs.all V.oZ=true)→dN n lmap thaw q xs=some (ys,aK)→iz X own lent q xs vs→
  ys.length=vs.length∧(∀(i:Nat) (y:V) (v:Value),ys[i]? =some y→vs[i]? =some v→bm Y y v)∧∀u∈aK,gU X own n thaw fl u
 |q,[],ys,aK,vs,hf,h,hr=>by
  simp[dN] at h;obtain⟨rfl,rfl⟩:=h;cases vs with
  |nil=>exact⟨rfl,fun i y v h=>by simp at h,fun u hu=>by simp at hu⟩
  |cons=>simp[iz] at hr
 |q,x::xs,ys,aK,vs,hf,h,hr=>by
  cases vs with
  |nil=>simp[iz] at hr
  |cons v vs=>
   simp only[dN] at h;split at h
   ·rename_i y u1 q1 h1;split at h
    ·rename_i ys' u2 h2;simp only[af,ah] at h;obtain⟨rfl,rfl⟩:=h;obtain⟨r1,r2⟩:=hr;have hf':=fun k=>by have:=hf k;simpa [List.all_cons,ae] using this
     obtain⟨a1,rfl,a2⟩:=gT H hm (fun k=>(hf' k).1) h1 r1;obtain⟨b0,b1,b2⟩:=il H hm (fun k=>by simpa using(hf' k).2) h2 r2;refine⟨by simp[b0], ?_,fun u hu=> ?_⟩
     ·intro i y v hy hv;cases i with
      |zero=>simp at hy hv;subst hy hv;exact a1
      |succ i=>exact b1 i y v (by simpa using hy) (by simpa using hv)
     ·rcases List.mem_append.1 hu with q|q
      ·exact a2 u q
      ·exact b2 u q
    ·cases h
   ·cases h
theorem kU{X Y:Cx}{own:Nat→Option Loc}{lent:List (Nat×Ob)}{lmap:List (Nat×Nat×Nat)}{thaw:List (Nat×Nat)}{x y:V}{aK:List (Nat×Ob)}{v:Value}{fl:Bool}
  (H:Home X Y own lent n lmap thaw) (hm:fh X Y∨fl=true) (hf:fl=true→x.flat=true) (h:back n lmap thaw x=some (y,aK)) (hr:oU X own lent x v):
  bm Y y v∧∀u∈aK,gU X own n thaw fl u:=by
 cases x with
 |fj vs=>
  simp only[back,aa,ah] at h;obtain⟨r,h1,rfl,rfl⟩:=h;cases v with
  |tuple xs=>
   obtain⟨b0,b1,b2⟩:=il H hm (fun k=>hf k) h1 hr;exact⟨.fj _ _ (by simpa using b0) fun i v x h1 h2=>b1 i v x h1 (by simpa using h2),b2⟩
  |_=>simp[oU,iX] at hr
 |c t=>
  simp only[back,aa,ah] at h;obtain⟨r,h1,rfl,rfl⟩:=h;obtain⟨a1,_,a2⟩:=gT H hm (x:= .c t) hf (q':=r.2.2) h1 hr;exact⟨a1,a2⟩
 |a ts=>
  simp only[back,aa,ah] at h;obtain⟨r,h1,rfl,rfl⟩:=h;obtain⟨a1,_,a2⟩:=gT H hm (x:= .a ts) hf (q':=r.2.2) h1 hr;exact⟨a1,a2⟩
 |undef=>simp[back,eb] at h
theorem fF{nn:Nat}{o after:List (Nat×Ob)}:∀{ls:List (Nat×Nat×Ob)} {aK:List (Nat×Ob)},bL nn o after ls=some aK→
  (∀u∈aK,∃l∈ls,∃b,l.2.1=u.1∧get o u.1=some b∧u.2=dO nn b (get after l.1))∧∀l∈ls,∃ob,get aK l.2.1=some ob
 |[],aK,h=>by simp[bL] at h;subst h;exact⟨fun u hu=>by simp at hu,fun l hl=>by simp at hl⟩
 |(p,id,ob)::ls,aK,h=>by
  simp only[bL] at h;split at h
  ·rename_i b l h2 h3;cases h;obtain⟨i1,i2⟩:=fF h3;refine⟨fun u hu=> ?_,fun l' hl=> ?_⟩
   ·rcases List.mem_cons.1 hu with rfl|hu
    ·exact⟨_,bd ..,b,rfl,h2,rfl⟩
    ·obtain⟨l',k1,k2⟩:=i1 u hu;exact⟨l',aU _ k1,k2⟩
   ·simp only[get];split
    ·exact⟨_,rfl⟩
    ·rename_i hne;rcases List.mem_cons.1 hl with rfl|hl
     ·exact(hne rfl).elim
     ·exact i2 l' hl
  ·cases h
end Mx
namespace Mx
open Go
variable {P:Program} {F:Nat→FuncId} {Pr:Nat→Prop} {w0:World} {lb:Lb} {N:Nat} {E:Nat→Option Loc} {n:Nat→Prop} {t:List (Nat×V)} {o:List (Nat×Ob)} {a:Act} {w:World}
theorem eZ{p id:Nat}{v v':V}{ob:Ob}(h:b_ o p v=some (v',id,ob)):eQ o (p,id,ob):=by
 unfold b_ at h;split at h
 ·split at h
  ·rename_i b hg;split at h
   ·rename_i hc;simp only[aa,ah] at h;obtain⟨rows,hm,rfl,rfl,rfl⟩:=h;exact⟨b,hg,hc.2.1,rfl,rfl,hc.2.1,rfl,.inr hm⟩
   ·cases h
  ·cases h
 ·split at h
  ·rename_i b hg;split at h
   ·rename_i hc;simp only[af,ah] at h;obtain⟨rfl,rfl,rfl⟩:=h;exact⟨b,hg,hc.2.1,rfl,rfl,hc.2.1,rfl,.inl ⟨rfl,hc.2.2.1⟩⟩
   ·cases h
  ·cases h
 ·cases h
theorem gG{lend:List Nat}:∀{ts:List T} {k:Nat} {ts':List T} {ls:List (Nat×Nat×Ob)} {b:List Nat},dr o lend k ts=some (ts',ls,b)→
  (∀l∈ls,k≤l.1∧l.1<k+ts.length∧eQ o l)∧(ls.map (·.1)).Nodup
 |[],k,ts',ls,b,h=>by
  simp[dr] at h;obtain⟨rfl,rfl,rfl⟩:=h;exact⟨fun l hl=>by simp at hl,by simp⟩
 |t::ts,k,ts',ls,b,h=>by
  simp only[dr] at h;split at h
  ·cases h
  ·rename_i ts1 ls1 b1 hrest;obtain⟨i3,i4⟩:=gG hrest;split at h
   ·split at h
    ·rename_i t' id ob hlo;simp only[af,ah] at h;obtain⟨rfl,rfl,rfl⟩:=h;have k1:=eZ hlo;refine⟨?_, ?_⟩
     ·intro l hl;rcases List.mem_cons.1 hl with rfl|hl
      ·exact⟨Nat.le_refl _,by simp,k1⟩
      ·obtain⟨q1,q2,q3⟩:=i3 l hl;exact⟨by omega,by simp;omega,q3⟩
     ·simp only[aI,List.nodup_cons];refine⟨?_,i4⟩;intro hm;obtain⟨l,hl,e⟩:=List.mem_map.1 hm;have:=(i3 l hl).1;omega
    ·cases h
   ·split at h
    ·simp only[af,ah] at h;obtain⟨rfl,rfl,rfl⟩:=h;refine⟨?_,i4⟩;intro l hl;obtain⟨q1,q2,q3⟩:=i3 l hl;exact⟨by omega,by simp;omega,q3⟩
    ·cases h
def fP(p q k:Nat):Prop:=(p≤k∧k<q)∨(1000000+64*p≤k∧k<1000000+64*q)
theorem iw{lend:List Nat}:∀{vals:List V} {p:Nat} {as:List V} {ls:List (Nat×Nat×Ob)} {b:List Nat},args o lend p vals=some (as,ls,b)→p+vals.length≤1000→
  as.length=vals.length∧(∀l∈ls,fP p (p+vals.length) l.1∧eQ o l)∧(ls.map (·.1)).Nodup
 |[],p,as,ls,b,h,_=>by
  simp[args] at h;obtain⟨rfl,rfl,rfl⟩:=h;exact⟨rfl,fun l hl=>by simp at hl,by simp⟩
 |v::vals,p,as,ls,b,h,hp=>by
  simp only[al] at hp;simp only[args] at h;split at h
  ·cases h
  ·rename_i as' ls' b' hrest;obtain⟨i1,i3,i4⟩:=iw hrest (by omega);have up:∀k,fP (p+1) (p+1+vals.length) k→fP p (p+(v::vals).length) k:=by
    intro k hk;simp only[fP,al] at hk ⊢;omega
   split at h
   ·split at h
    ·rename_i v' id ob hlo;simp only[af,ah] at h;obtain⟨rfl,rfl,rfl⟩:=h;have k1:=eZ hlo;refine⟨by simp[i1], ?_, ?_⟩
     ·intro l hl;rcases List.mem_cons.1 hl with rfl|hl
      ·exact⟨.inl ⟨Nat.le_refl _,by simp⟩,k1⟩
      ·obtain⟨q1,q3⟩:=i3 l hl;exact⟨up _ q1,q3⟩
     ·simp only[aI,List.nodup_cons];refine⟨?_,i4⟩;intro hm;obtain⟨l,hl,e⟩:=List.mem_map.1 hm;have:=(i3 l hl).1;simp only[fP] at this;omega
    ·cases h
   ·split at h
    ·split at h
     ·rename_i ts;split at h
      ·rename_i h64;split at h
       ·rename_i ts' ls1 b1 hcells;simp only[af,ah] at h;obtain⟨rfl,rfl,rfl⟩:=h;obtain⟨j3,j4⟩:=gG hcells;refine⟨by simp[i1], ?_, ?_⟩
        ·intro l hl;rcases List.mem_append.1 hl with hl|hl
         ·obtain⟨q1,q2,q3⟩:=j3 l hl;exact⟨.inr ⟨q1,by simp only[al];omega⟩,q3⟩
         ·obtain⟨q1,q3⟩:=i3 l hl;exact⟨up _ q1,q3⟩
        ·rw[bN,List.nodup_append];refine⟨j4,i4, ?_⟩;intro x hx y hy e;obtain⟨l,hl,e1⟩:=List.mem_map.1 hx;obtain⟨l',hl',e2⟩:=List.mem_map.1 hy;have q1:=(j3 l hl).1;have q2:=(j3 l hl).2.1;have q3:=(i3 l' hl').1;simp only[fP] at q3;omega
       ·cases h
      ·cases h
     ·cases h
    ·split at h
     ·rename_i v' hv';simp only[af,ah] at h;obtain⟨rfl,rfl,rfl⟩:=h;refine⟨by simp[i1], ?_,i4⟩;intro l hl;obtain⟨q1,q3⟩:=i3 l hl;exact⟨up _ q1,q3⟩
     ·cases h
theorem jn{X Y:Cx}(hF:Y.F=X.F)(hc:∀ad v,¬X.U ad.block→X.w.cell? ad=some v→Y.w.cell? ad=some v∧¬Y.U ad.block):fh X Y:=fun _ _ k h=>h.o2 hF hc k
def bI(ls:List (Nat×Nat×Ob)):List (Nat×Ob):=ls.map fun l=>(l.1,l.2.2)
def dR(E:Nat→Option Loc)(o:List (Nat×Ob))(ls:List (Nat×Nat×Ob))(v:Nat):Option Loc:=
 match get (ls.map fun l=>(l.1,l.2.1)) v with
 |some id=>(match get o id with|some b=>E b.ar|none=>none)
 |none=>none
def LB(E:Nat→Option Loc)(o:List (Nat×Ob))(ls:List (Nat×Nat×Ob))(bk:Nat):Prop:=∃l∈ls,jO E o l.2.1 bk
theorem eJ{α:Type}{ls:List (Nat×Nat×Ob)}(hn:(ls.map (·.1)).Nodup)(g:Nat×Nat×Ob→α){l:Nat×Nat×Ob}(hl:l∈ls):get (ls.map fun l=>(l.1,g l)) l.1=some (g l):=
 fa (by rw[List.map_map];exact hn) (List.mem_map.2 ⟨l,hl,rfl⟩)
theorem bW{α:Type}{ls:List (Nat×Nat×Ob)}(g:Nat×Nat×Ob→α){p:Nat}{x:α}(h:get (ls.map fun l=>(l.1,g l)) p=some x):∃l∈ls,l.1=p∧g l=x:=by
 obtain⟨l,hl,e⟩:=List.mem_map.1 (get_mem h);cases e;exact⟨l,hl,rfl,rfl⟩
section
variable {ls:List (Nat×Nat×Ob)} (hk:(ls.map (·.1)).Nodup) (hlo:∀l∈ls,eQ o l)
include hk hlo
omit hlo in
theorem fi{l:Nat×Nat×Ob}(hl:l∈ls){b:Ob}(hg:get o l.2.1=some b):dR E o ls l.1=E b.ar:=by
 simp only[dR,eJ hk (fun l=>l.2.1) hl,hg]
theorem cO(bk:Nat):gV (bI ls) (dR E o ls) bk↔LB E o ls bk:=by
 constructor
 ·rintro ⟨p,ob,cap,sz,h1,h2⟩;obtain⟨l,hl,rfl,rfl⟩:=bW (fun l=>l.2.2) h1;obtain⟨b,hg,_,hver,_⟩:=hlo l hl;rw[hver,fi hk hl hg] at h2;exact⟨l,hl,b,cap,sz,hg,h2⟩
 ·rintro ⟨l,hl,b,cap,sz,hg,hE⟩;obtain⟨b',hg',_,hver,_⟩:=hlo l hl;exact⟨l.1,l.2.2,cap,sz,eJ hk (fun l=>l.2.2) hl,by rw[hver,fi hk hl hg];exact hE⟩
omit hk in
theorem nJ{bk:Nat}(h:LB E o ls bk):(cx F Pr E o w).U bk:=by
 obtain⟨l,hl,b,cap,sz,hg,hE⟩:=h;obtain⟨b',hg',hw,_⟩:=hlo l hl;rw[hg] at hg';cases hg';exact .inl ⟨_,b,cap,sz,hg,hw,hE⟩
end
theorem pj(R:Rel F Pr w0 lb N E n t o a w){bk:Nat}(h:(cx F Pr E o w).U bk):bk<w.heap.size:=by
 rcases h with⟨id,ob,cap,sz,g1,_,g3⟩|hpr
 ·exact(R.place id ob bk cap sz g1 g3).1
 ·exact Nat.lt_of_lt_of_le (R.pr.1 bk hpr).1 R.size
theorem kS(R:Rel F Pr w0 lb N E n t o a w){nn:Nat}{n':Nat→Prop}(hn:Fr n nn n'){cf:au}(hcf:ec P F cf){f:Nat}{vals:List V}{lend:List Nat}{thaw:List (Nat×Nat)}(hth:∀p∈thaw,p.1<15)
  {xs:Array Value} (hx:vals.length=xs.size) (hr:∀(i:Nat) (v:V) (x:Value),vals[i]? =some v→xs[i]? =some x→bm (cx F Pr E o w) v x) {v:V} {aK:List (Nat×Ob)}
  (h:br cf nn o f vals lend thaw=some (v,aK)):iK P F f=true∧Calls P (F f) xs w fun e w'=>∃val E',e= .returned val∧Rel F Pr w0 lb N E' n' t (aK++o) a w'∧bm (cx F Pr E' (aK++o) w') v val:=by
 unfold br at h;split at h
 ·cases h
 rename_i as ls B hargs;split at h;rotate_left
 ·cases h
 rename_i hcond;obtain⟨h1000,hdisj,hnd⟩:=hcond;split at h
 ·cases h
 rename_i res after hres;split at h;rotate_left
 ·cases h
 rename_i ups1 v' ups2 hlb hbk;split at h;rotate_left
 ·cases h
 rename_i hflat;simp only[af,ah] at h;obtain⟨rfl,rfl⟩:=h;obtain⟨hlen,hls,hk⟩:=iw hargs (by omega);have hlo:∀l∈ls,eQ o l:=fun l hl=>(hls l hl).2
 obtain⟨hokf,hcalls⟩:=hcf f as (bI ls) res after hres;refine⟨hokf, ?_⟩
 let Pr':Nat→Prop:=fun bk=>(cx F Pr E o w).U bk∧¬LB E o ls bk∧∀id∈B,¬jO E o id bk
 have hX0:∀bk,(cx F Pr' (dR E o ls) (bI ls) w).U bk→LB E o ls bk∨Pr' bk:=by
  rintro bk (⟨id,ob,cap,sz,g1,_,g3⟩|hpr)
  ·exact .inl ((cO hk hlo bk).1 ⟨id,ob,cap,sz,g1,g3⟩)
  ·exact .inr hpr
 have hBL:∀id∈B,∀l∈ls,l.2.1≠id:=by
  intro id hid l hl e;simp only[ao] at hdisj;have:=hdisj l.2.1 (List.mem_map.2 ⟨l,hl,rfl⟩);rw[e] at this;simp at this;exact this hid
 have D:Reads F Pr E o w B (cx F Pr' (dR E o ls) (bI ls) w):=by
  refine⟨rfl,rfl, ?_, ?_⟩
  ·intro bk hu h;rcases hX0 bk h with h|h
   ·exact hu (nJ hlo h)
   ·exact hu h.1
  ·intro id hid bk hb h;rcases hX0 bk h with h|h
   ·obtain⟨l,hl,ob',cap',sz',q1,q2⟩:=h;obtain⟨ob,cap,sz,q3,q4⟩:=hb;exact hBL id hid l hl (R.de _ _ ob' ob bk cap' sz' cap sz q1 q3 q2 q4)
   ·exact h.2.2 id hid hb
 have hE0:∀l∈ls,∀ob,get o l.2.1=some ob→(cx F Pr' (dR E o ls) (bI ls) w).E l.1=E ob.ar:=fun l hl ob hg=>fi hk hl hg
 obtain⟨_,hargsR⟩:=gi R D (xs:=xs.toList) hargs (by simpa using hx) (fun i v x h1 h2=>hr i v x h1 (by simpa using h2)) (fun id h=>h) hE0;have entry:Entry F Pr' (dR E o ls) as (bI ls) xs w:=by
  refine⟨by rw[hlen];exact hx,fun i v x h1 h2=>hargsR i v x h1 (by simpa using h2), ?_, ?_, ?_, ?_, ?_⟩
  ·intro p ob hg;obtain⟨l,hl,rfl,rfl⟩:=bW (fun l=>l.2.2) hg;obtain⟨b,loc,k1,k2,k3⟩:=mC R D (hlo l hl);obtain⟨b',g1,g2,g3,g4,g5,_⟩:=hlo l hl;have:=(hls l hl).1;simp only[fP] at this;exact⟨g3,⟨by simp only[cu,Bool.or_eq_true,decide_eq_true_eq];omega,by omega⟩,g5,loc,by rw[fi hk hl k1];exact k2,k3⟩
  ·intro p ob bk cap sz hg hE;obtain⟨l,hl,b,c,s,k1,k2⟩:=(cO hk hlo bk).1 ⟨p,ob,cap,sz,hg,hE⟩;exact(R.place _ b bk c s k1 k2).1
  ·intro p p' ob ob' bk cap sz cap' sz' hg hg' hE hE';obtain⟨l,hl,rfl,rfl⟩:=bW (fun l=>l.2.2) hg;obtain⟨l',hl',rfl,rfl⟩:=bW (fun l=>l.2.2) hg';obtain⟨b,g1,_,g3,_⟩:=hlo l hl;obtain⟨b',g1',_,g3',_⟩:=hlo l' hl';rw[g3,fi hk hl g1] at hE;rw[g3',fi hk hl' g1'] at hE';have:=R.de _ _ b b' bk cap sz cap' sz' g1 g1' hE hE';rw[cK (f:=fun l=>l.2.1) hnd hl hl' this]
  ·intro ar l hE;unfold dR at hE;split at hE
   ·rename_i id hid;obtain⟨l,hl,rfl,_⟩:=bW (fun l=>l.2.1) hid;have:=(hls l hl).1;simp only[fP] at this;omega
   ·cases hE
  ·refine⟨fun bk hb=>⟨pj R hb.1,fun q=>hb.2.1 ((cO hk hlo bk).1 q)⟩, ?_⟩;rcases R.pr.2 with g0|⟨g1,g2,m,g3⟩
   ·exact .inl g0
   ·refine .inr ⟨Nat.lt_of_lt_of_le g1 R.size,fun q=> ?_,m,by rw[lI (R.frame _ g1 g2)];exact g3⟩;obtain⟨l,hl,b,c,s,k1,k2⟩:=(cO hk hlo _).1 q;rcases (R.place _ b _ c s k1 k2).2 with z|z
    ·exact absurd g1 (Nat.not_lt.2 z)
    ·exact g2 z
 refine(hcalls Pr' (dR E o ls) xs w entry).mono ?_;rintro e w' ⟨val,E',own,rfl,Bk⟩
 let E2:Nat→Option Loc:=fun v=>if v=nn+15 then some .nil else if nn≤v∧v<nn+16 then(get thaw (v-nn)).bind (fun _=>own (v-nn)) else E v
 refine⟨val,E2,rfl, ?_⟩;have hEold:∀ar l,E ar=some l→E2 ar=some l:=by
  intro ar l h;have hne:¬(nn≤ar∧ar<nn+16):=fun q=>hn.new ar q.1 q.2 (R.fresh ar l h)
  simp only[E2];rw[if_neg (by omega),if_neg hne];exact h
 have hEobj:∀id ob,get o id=some ob→E2 ob.ar=E ob.ar:=by
  intro id ob h;have hne:¬(nn≤ob.ar∧ob.ar<nn+16):=fun q=>hn.new ob.ar q.1 q.2 (R.cS id ob h).1
  simp only[E2];rw[if_neg (by omega),if_neg hne]
 have hEown:∀q id,get thaw q=some id→E2 (nn+q)=own q:=by
  intro q id h;have hq16:=hth _ (get_mem h);simp only at hq16;simp only[E2];rw[if_neg (by omega),if_pos (by omega),show nn+q-nn=q from by omega,h];rfl
 have hE15:E2 (nn+15)=some .nil:=if_pos rfl;obtain⟨hlb1,hlb2⟩:=fF hlb;have hcls:∀id ob2,get ((ups1++ups2)++o) id=some ob2→get ups1 id=some ob2∨(get ups2 id=some ob2)∨(get o id=some ob2∧∀l∈ls,l.2.1≠id):=by
  intro id ob2 hg;rw[get_append,get_append] at hg;cases h1:get ups1 id with
  |some x=>rw[h1] at hg;simp at hg;exact .inl (by rw[hg])
  |none=>
   cases h2:get ups2 id with
   |some x=>rw[h1,h2] at hg;simp at hg;exact .inr (.inl (by rw[hg]))
   |none=>
    rw[h1,h2] at hg;simp at hg;refine .inr (.inr ⟨hg,fun l hl e=> ?_⟩);obtain⟨ob,hob⟩:=hlb2 l hl;rw[e,h1] at hob;cases hob
 have kL:∀l∈ls,get (bI ls) l.1=some l.2.2:=fun l hl=>eJ hk (fun l=>l.2.2) hl
 have hNotL:∀id ob bk cap sz,get o id=some ob→E ob.ar=some (.bQ bk cap sz)→(∀l∈ls,l.2.1≠id)→¬LB E o ls bk:=by
  rintro id ob bk cap sz h1 h2 h3 ⟨l,hl,ob',cap',sz',q1,q2⟩;exact h3 l hl (R.de _ _ ob' ob bk cap' sz' cap sz q1 h1 q2 h2)
 have hLBlt:∀bk,LB E o ls bk→bk<w.heap.size:=fun bk h=>pj (Pr:=Pr) R (nJ hlo h)
 let LBk:Nat→Prop:=fun bk=>∃l∈ls,get after l.1≠none∧jO E o l.2.1 bk
 have hLBk:∀bk,LBk bk→LB E o ls bk:=fun bk ⟨l,hl,_,h⟩=>⟨l,hl,h⟩
 have hpre:∀(T2:List (Nat×Ob)),(∀u∈T2,∃q l,get thaw q=some u.1∧own q=some l∧u.2.ar=nn+q)→(∀id ob2,get ((ups1++T2)++o) id=some ob2→get ups1 id=some ob2∨(get T2 id=some ob2)∨(get o id=some ob2∧∀l∈ls,l.2.1≠id))→
   ∀bk,(cx F Pr E2 ((ups1++T2)++o) w').U bk→LBk bk∨(∃q cap sz id,get thaw q=some id∧own q=some (.bQ bk cap sz))∨((cx F Pr E o w).U bk∧¬LB E o ls bk):=by
  rintro T2 hT hc bk (⟨id,ob,cap,sz,g1,g2,g3⟩|hpr)
  ·rcases hc id ob g1 with h|h|⟨h,h'⟩
   ·obtain⟨l,hl,b,e1,e3,e4⟩:=hlb1 (id,ob) (get_mem h);simp only at e1 e3 e4;cases e2:get after l.1 with
    |none=>
     rw[e2] at e4;subst e4;simp only[dO] at g3;rw[hE15] at g3;cases g3
    |some b'=>
     rw[e2] at e4;subst e4;refine .inl ⟨l,hl,by rw[e2];simp,b,cap,sz,by rw[e1];exact e3, ?_⟩;rw[←hEobj id b e3];exact g3
   ·obtain⟨q,l,e1,e2,e3⟩:=hT (id,ob) (get_mem h);simp only at e1 e3;rw[e3,hEown q id e1] at g3;exact .inr (.inl ⟨q,cap,sz,id,e1,g3⟩)
   ·rw[hEobj id ob h] at g3;exact .inr (.inr ⟨.inl ⟨id,ob,cap,sz,h,g2,g3⟩,hNotL id ob bk cap sz h g3 h'⟩)
  ·refine .inr (.inr ⟨.inr hpr, ?_⟩);rintro ⟨l,hl,ob',cap',sz',q1,q2⟩;have h1:=R.pr.1 bk hpr;rcases (R.place _ ob' bk cap' sz' q1 q2).2 with q|q
   ·omega
   ·exact h1.2 q
 have hhl:∀Y:Cx,Y.E=E2→∀p id ar,get (ls.map fun l=>(l.1,l.2.1,(get o l.2.1).elim 0 (·.ar))) p=some (id,ar)→∃ob,get (bI ls) p=some ob∧∀l,(rx F Pr' (dR E o ls) (bI ls) E' own w').E p=some l→Y.E ar=some l:=by
  intro Y hY p id ar hg;obtain⟨l,hl,rfl,e⟩:=bW (fun l=>(l.2.1,(get o l.2.1).elim 0 (·.ar))) hg;obtain⟨b,g1,_⟩:=hlo l hl;simp only[g1,Option.elim_some,ah] at e;obtain⟨rfl,rfl⟩:=e;refine⟨_,kL l hl,fun loc hloc=> ?_⟩;obtain⟨_,loc',h1,_⟩:=R.cS _ b g1;have h2:=Bk.ext l.1 loc' (by rw[fi hk hl g1];exact h1);rw[show (rx F Pr' (dR E o ls) (bI ls) E' own w').E=E' from rfl,h2] at hloc;cases hloc;rw[hY];exact hEold _ _ h1
 have hfl:fh (rx F Pr' (dR E o ls) (bI ls) E' own w') {w:=w',U:=fun _=>False,E:=E2,F:=F}∨(!B.isEmpty)=true:=
  .inl (jn (by rfl) (fun ad v _ hcell=>⟨hcell,fun h=>h⟩))
 have hfl2:(!B.isEmpty)=true→res.flat=true:=by
  intro hb;rcases hflat with q|q
  ·rw[q] at hb;cases hb
  ·exact q.1
 have hthaw:=(kU (X:=rx F Pr' (dR E o ls) (bI ls) E' own w') (Y:={w:=w',U:=fun _=>False,E:=E2,F:=F}) (own:=own) (lent:=bI ls) ⟨rfl,fun q id h=>hEown q id h,fun _ _ _ _ _ _ h=>h,hhl _ rfl⟩ hfl hfl2 hbk Bk.res).2;have hU:=hpre ups2 (fun u hu=>by obtain⟨q,l,h1,h2,h3,_⟩:=hthaw u hu;exact⟨q,l,h1,h2,h3⟩) hcls;have hLX:∀bk,LB E o ls bk→(rx F Pr' (dR E o ls) (bI ls) E' own w').U bk:=fun bk h=> .inl ((cO hk hlo bk).2 h)
 have hmv:fh (rx F Pr' (dR E o ls) (bI ls) E' own w') (cx F Pr E2 ((ups1++ups2)++o) w')∨(!B.isEmpty)=true:=by
  cases hB:B with
  |cons x xs=>exact .inr rfl
  |nil=>
   refine .inl (jn (by rfl) (fun ad v hu hcell=>⟨hcell,fun h=>hu ?_⟩));rcases hU _ h with h|⟨q,cap,sz,id,_,h⟩|⟨h1,h2⟩
   ·exact hLX _ (hLBk _ h)
   ·exact .inr (.inr ⟨q,cap,sz,h⟩)
   ·exact .inr (.inl ⟨h1,h2,by rw[hB];intro id hid;simp at hid⟩)
 have hgone:∀b,(∃p ob cap' sz',get (bI ls) p=some ob∧get after p=none∧dR E o ls ob.ar=some (.bQ b cap' sz'))→∃l∈ls,get after l.1=none∧jO E o l.2.1 b:=by
  rintro b ⟨p,ob,cap',sz',h1,h2,h3⟩;obtain⟨l,hl,rfl,rfl⟩:=bW (fun l=>l.2.2) h1;obtain⟨b',hg',_,hver,_⟩:=hlo l hl;rw[hver,fi hk hl hg'] at h3;exact⟨l,hl,h2,b',cap',sz',hg',h3⟩
 have H:Home (rx F Pr' (dR E o ls) (bI ls) E' own w') (cx F Pr E2 ((ups1++ups2)++o) w') own (bI ls) nn (ls.map fun l=>(l.1,l.2.1,(get o l.2.1).elim 0 (·.ar))) thaw:=by
  refine⟨rfl,fun q id h=>hEown q id h, ?_,hhl _ rfl⟩;intro q b cap sz hq mJ h;have hge:=(Bk.fresh q b cap sz mJ).1;rcases hU _ h with h|⟨q',cap',sz',id,h1,h2⟩|⟨h1,h3⟩
  ·rcases hge with hge|hge
   ·have:=hLBlt b (hLBk b h);omega
   ·obtain⟨l0,hl0,h0,hb0⟩:=hgone b hge;obtain⟨l,hl,ha,hb⟩:=h;obtain⟨ob1,c1,s1,x1,y1⟩:=hb;obtain⟨ob2,c2,s2,x2,y2⟩:=hb0;have:=R.de _ _ ob1 ob2 b c1 s1 c2 s2 x1 x2 y1 y2;have:=cK (f:=fun l=>l.2.1) hnd hl hl0 this;rw[this] at ha;exact ha h0
  ·have:=Bk.de q q' b cap sz cap' sz' mJ h2;subst this;rw[hq] at h1;cases h1
  ·rcases hge with hge|hge
   ·have:=pj R h1;omega
   ·obtain⟨l0,hl0,h0,hb0⟩:=hgone b hge;exact h3 ⟨l0,hl0,hb0⟩
 refine⟨?_,(kU H hmv hfl2 hbk Bk.res).1⟩;have hframe:∀bk,bk<w.heap.size→¬LB E o ls bk→w'.heap[bk]? =w.heap[bk]? :=fun bk h1 h2=>Bk.frame bk h1 fun h=>h2 ((cO hk hlo bk).1 h)
 have K:b9 (cx F Pr E o w) (cx F Pr E2 ((ups1++ups2)++o) w'):=by
  refine⟨rfl,hEold,fun ad v hu hc=> ?_⟩;have hlt:ad.block<w.heap.size:=kR hc;refine⟨(dM (hframe _ hlt fun h=>hu (nJ hlo h))).trans hc,fun h=> ?_⟩;rcases hU _ h with h|⟨q,cap,sz,id,_,h⟩|⟨h1,h2⟩
  ·exact hu (nJ hlo (hLBk _ h))
  ·rcases (Bk.fresh q _ cap sz h).1 with z|z
   ·omega
   ·obtain⟨l0,hl0,_,hb0⟩:=hgone _ z;exact hu (nJ hlo ⟨l0,hl0,hb0⟩)
  ·exact hu h1
 have hplace:∀id ob bk cap sz,get ((ups1++ups2)++o) id=some ob→E2 ob.ar=some (.bQ bk cap sz)→(∃b,get o id=some b∧b.ar=ob.ar∧E b.ar=some (.bQ bk cap sz))∨∃q,get thaw q=some id∧ob.ar=nn+q∧own q=some (.bQ bk cap sz):=by
  intro id ob bk cap sz hg hE;rcases hcls id ob hg with h|h|⟨h,_⟩
  ·obtain⟨l,hl,b,e1,e3,e4⟩:=hlb1 (id,ob) (get_mem h);simp only at e1 e3 e4;cases e2:get after l.1 with
   |none=>
    rw[e2] at e4;subst e4;simp only[dO] at hE;rw[hE15] at hE;cases hE
   |some b'=>
    rw[e2] at e4;subst e4;exact .inl ⟨b,e3,rfl,by rw[←hEobj id b e3];exact hE⟩
  ·obtain⟨q,l,h1,h2,h3,_⟩:=hthaw (id,ob) (get_mem h);simp only at h1 h3;rw[h3,hEown q id h1] at hE;exact .inr ⟨q,h1,h3,hE⟩
  ·exact .inl ⟨ob,h,rfl,by rw[←hEobj id ob h];exact hE⟩
 have hdead:∀bk,(∃p ob cap' sz',get (bI ls) p=some ob∧get after p=none∧dR E o ls ob.ar=some (.bQ bk cap' sz'))→∀id ob b cap sz cap2 sz2,get ((ups1++ups2)++o) id=some ob→E2 ob.ar=some (.bQ bk cap sz)→get o id=some b→E b.ar=some (.bQ bk cap2 sz2)→False:=by
  intro bk hz id ob b cap sz cap2 sz2 hg hE h1 h3;obtain⟨l0,hl0,h0,ob2,c2,s2,x2,y2⟩:=hgone bk hz;have hid:=R.de _ _ b ob2 bk cap2 sz2 c2 s2 h1 x2 h3 y2;subst hid;obtain⟨x,hx⟩:=hlb2 l0 hl0;rw[get_append,get_append,hx] at hg;simp only[Option.some_or,af] at hg;subst hg;obtain⟨l,hl,b3,e1,e3,e4⟩:=hlb1 (l0.2.1,x) (get_mem hx);simp only at e1 e3 e4;have:=cK (f:=fun l=>l.2.1) hnd hl hl0 e1;rw[this,h0] at e4;subst e4;simp only[dO] at hE;rw[hE15] at hE;cases hE
 refine⟨Bk.os.trans R.os,Bk.tape.trans R.tape,Bk.output.trans R.output,Nat.le_trans R.size Bk.size, ?_,R.defers,R.nt,fun d v hv=>(R.tmps d v hv).mono K, ?_, ?_, ?_, ?_,R.pr,fun v l h=>hEold _ _ (R.ext v l h)⟩
 ·intro bk h1 h2;refine(hframe bk (Nat.lt_of_lt_of_le h1 R.size) ?_).trans (R.frame bk h1 h2);rintro ⟨l,hl,ob',cap',sz',q1,q2⟩;rcases (R.place _ ob' bk cap' sz' q1 q2).2 with q|q
  ·omega
  ·exact h2 q
 ·intro id ob hg;rcases hcls id ob hg with h|h|⟨h,hnl⟩
  ·obtain⟨l,hl,b,e1,e3,e4⟩:=hlb1 (id,ob) (get_mem h);simp only at e1 e3 e4;cases e2:get after l.1 with
   |none=>
    rw[e2] at e4;subst e4;exact⟨hn.add _ (by simp only[dO];omega) (by simp only[dO];omega),.nil,hE15,rfl,rfl⟩
   |some b'=>
   rw[e2] at e4;simp only[dO] at e4;obtain⟨hver,loc,hloc,_⟩:=R.cS id b e3;obtain⟨b2,g1,g2,g3,g4,g5,g6,_⟩:=hlo l hl;rw[e1,e3] at g1;cases g1;obtain⟨k1,k2⟩:=Bk.cS l.1 l.2.2 b' loc (kL l hl) e2 (by rw[fi hk hl (by rw[e1];exact e3)];exact hloc);subst e4;refine⟨hn.b8 _ hver,loc,hEold _ _ hloc, ?_⟩;cases loc with
   |nil=>exact⟨k1.1,by have:=k1.2;simp only at this ⊢;rw[←g6];exact this⟩
   |bQ bk cap sz=>
    refine⟨by have:=k1.1;simp only at this ⊢;rw[←g4];exact this,k1.2.move rfl rfl (by simp only;exact g4.symm) (fun _=>k2) fun i j r t v hi ht hv=> ?_⟩;rcases hmv with q|q
    ·exact q _ _ (k2 i j r t hi ht) hv
    ·rcases hflat with q'|q'
     ·rw[q'] at q;cases q
     ·have hall:=q'.2;simp only[ao (l:=ups1)] at hall;exact hv.scalar (eO (hall _ (get_mem h)) hi ht)
  ·obtain⟨q,l,h1,h2,h3,h4,h5,h6,h7⟩:=hthaw (id,ob) (get_mem h);simp only at h1 h3 h4 h5 h6 h7;have hq16:=hth _ (get_mem h1);simp only at hq16;refine⟨by rw[h3];exact hn.add _ (by omega) (by omega),l,by rw[h3,hEown q id h1];exact h2, ?_⟩;cases l with
   |nil=>exact h6
   |bQ bk cap sz=>
    refine⟨h6.1,h6.2.move rfl rfl rfl h6.2.cl fun i j r t v hi ht hv=> ?_⟩;rcases hmv with q|q
    ·exact q _ _ (h5 i j r t hi ht) hv
    ·exact hv.scalar (eO (h7 q) hi ht)
  ·obtain⟨hver,loc,hloc,hrl⟩:=R.cS id ob h;refine⟨hn.b8 _ hver,loc,hEold _ _ hloc, ?_⟩;cases loc with
   |nil=>exact hrl
   |bQ bk cap sz=>exact⟨hrl.1,hrl.2.mono K (hframe bk (R.place id ob bk cap sz h hloc).1 (hNotL id ob bk cap sz h hloc hnl))⟩
 ·intro id ob bk cap sz hg hE;rcases hplace id ob bk cap sz hg hE with⟨b,h1,h2,h3⟩|⟨q,h1,h2,h3⟩
  ·obtain⟨q1,q2⟩:=R.place id b bk cap sz h1 h3;exact⟨Nat.lt_of_lt_of_le q1 Bk.size,q2⟩
  ·obtain⟨q1,q2⟩:=Bk.fresh q bk cap sz h3;refine⟨q2, ?_⟩;rcases q1 with q1|q1
   ·exact .inl (Nat.le_trans R.size q1)
   ·obtain⟨l0,hl0,_,ob2,c2,s2,x2,y2⟩:=hgone bk q1;exact(R.place _ ob2 bk c2 s2 x2 y2).2
 ·intro id id' ob ob' bk cap sz cap' sz' hg hg' hE hE';rcases hplace id ob bk cap sz hg hE with⟨b,h1,h2,h3⟩|⟨q,h1,h2,h3⟩<;>rcases hplace id' ob' bk cap' sz' hg' hE' with⟨b',h1',h2',h3'⟩|⟨q',h1',h2',h3'⟩
  ·exact R.de id id' b b' bk cap sz cap' sz' h1 h1' h3 h3'
  ·have q1:=(R.place id b bk cap sz h1 h3).1;rcases (Bk.fresh q' bk cap' sz' h3').1 with q2|q2
   ·omega
   ·exact(hdead bk q2 id ob b cap sz cap sz hg hE h1 h3).elim
  ·have q1:=(R.place id' b' bk cap' sz' h1' h3').1;rcases (Bk.fresh q bk cap sz h3).1 with q2|q2
   ·omega
   ·exact(hdead bk q2 id' ob' b' cap' sz' cap' sz' hg' hE' h1' h3').elim
  ·have:=Bk.de q q' bk cap sz cap' sz' h3 h3';subst this;rw[h1] at h1';exact Option.some.inj h1'
 ·intro ar l hE;simp only[E2] at hE;split at hE
  ·rename_i hr;exact hn.add _ (by omega) (by omega)
  ·split at hE
   ·rename_i hr;exact hn.add _ hr.1 hr.2
   ·exact hn.b8 _ (R.fresh ar l hE)
end Mx
namespace Mx
open Go
variable {P:Program} {F:Nat→FuncId} {Pr:Nat→Prop} {w0:World} {lb:Lb} {N:Nat} {E:Nat→Option Loc} {n:Nat→Prop} {t:List (Nat×V)} {o:List (Nat×Ob)} {a:Act} {w:World}
def jS:MO→Bool
 | .call _ _ _ thaw=>thaw.all fun p=>decide (p.1<15)
 |_=>true
def c7(P:Program)(F:Nat→FuncId):MO→Op→Bool
 | .eqs neg ks x y,op=>n3 P F neg ks x y op
 |m,.call c=>eA P F m c&&jS m
 |m,op=>aM P F m op
def iJ(ops:Array Oper):Option (Nat×Bool)→Option (Nat×Bool)→Bool
 |none,none=>true
 |some (g,b),some (j,b')=>b==b'&&((ops[j]?).bind (·.dst)==some g)
 |_,_=>false
def kG(P:Program)(F:Nat→FuncId)(N:Nat)(ops:Array Oper)(m:cr)(x:Oper):Bool:=
 (m.dst==x.dst)&&(match x.dst with|some d=>decide (d<N)|none=>true)&&iJ ops m.guard x.guard&&c7 P F m.op x.op
theorem av{n':Nat→Prop}{oper:Oper}{v:V}{aK:List (Nat×Ob)}(h:dz P F Pr w0 lb N n' t o a w oper v aK){next:Act→World→Prop}{Q:Exit→Act→World→Prop}
  (hnext:∀E' val w',Rel F Pr w0 lb N E' n' t (aK++o) a w'→bm (cx F Pr E' (aK++o) w') v val→next (a.put oper.dst val) w'):oper.wp P a w next Q:=by
 obtain⟨val,w',E',hran,R,hv⟩:=h;have:=hnext E' val w' R hv;unfold Oper.wp;rcases hran with h|⟨h,rfl⟩
 ·rw[h];exact this
 ·rw[h];exact this
theorem fz(f:FuncId)(xs:Array Value){n':Nat→Prop}{oper:Oper}{v:V}{aK:List (Nat×Ob)}(he:(execOp a.eval oper).run P w= .ok (.enter f xs) w)
  (h:Calls P f xs w fun e w'=>∃val E',e= .returned val∧Rel F Pr w0 lb N E' n' t (aK++o) a w'∧bm (cx F Pr E' (aK++o) w') v val) {next:Act→World→Prop} {Q:Exit→Act→World→Prop}
  (hnext:∀E' val w',Rel F Pr w0 lb N E' n' t (aK++o) a w'→bm (cx F Pr E' (aK++o) w') v val→next (a.put oper.dst val) w'):oper.wp P a w next Q:=by
 unfold Oper.wp;rw[he,Oper.upon_enter];refine h.mono ?_;rintro e w' ⟨val,E',rfl,R,hv⟩;exact hnext E' val w' R hv
theorem jl{f:Nat}(h:iK P F f=true)(xs:Array Value)(w:World):(callFunc (F f) xs).run P w= .ok (.enter (F f) xs) w:=by
 unfold iK at h;split at h
 ·rename_i fn hfn;simp only[ae,bne_iff_ne,ne_eq,Option.isSome_iff_exists] at h;obtain⟨h1,b,hb⟩:=h;simp[callFunc,hfn,h1,hb]
 ·cases h
theorem fu(R:Rel F Pr w0 lb N E n t o a w):∀{xs:List O} {ys:List Operand} {vs:List V},fU F xs ys=true→aS (look t) xs=some vs→
  vs.length=ys.length∧∀(i:Nat) (v:V) (x:Value),vs[i]? =some v→(ys.map a.eval)[i]? =some x→bm (cx F Pr E o w) v x
 |[],[],vs,_,h=>by simp[aS] at h;subst h;exact⟨rfl,fun i v x h=>by simp at h⟩
 |x::xs,y::ys,vs,hok,h=>by
  simp only[fU,ae] at hok;simp only[aS] at h;split at h
  ·rename_i v vs' h1 h2;cases h;obtain⟨i1,i2⟩:=fu R hok.2 h2;refine⟨by simp[i1],fun i u z hu hz=> ?_⟩;cases i with
   |zero=>simp at hu hz;subst hu hz;exact bz R hok.1 h1
   |succ i=>exact i2 i u z (by simpa using hu) (by simpa using hz)
  ·cases h
 |[],_::_,_,hok,_=>by simp[fU] at hok
 |_::_,[],_,hok,_=>by simp[fU] at hok
theorem mo{m:MO}{op:Op}(h:c7 P F m op=true)(hne:∀c,op≠.call c)(hm:∀neg ks x y,m≠.eqs neg ks x y):aM P F m op=true:=by
 unfold c7 at h;split at h
 ·exact(hm _ _ _ _ rfl).elim
 ·exact(hne _ rfl).elim
 ·exact h
theorem nj(R:Rel F Pr w0 lb N E n t o a w){nn:Nat}{n':Nat→Prop}(hn:Fr n nn n'){cf:au}(hcf:ec P F cf){d:Nat}{m:MO}{oper:Oper}(hok:c7 P F m oper.op=true){v:V}{aK:List (Nat×Ob)}
  (h:act cf nn d t o m=some (v,aK)) {next:Act→World→Prop} {Q:Exit→Act→World→Prop}
  (hnext:∀E' val w',Rel F Pr w0 lb N E' n' t (aK++o) a w'→bm (cx F Pr E' (aK++o) w') v val→next (a.put oper.dst val) w'):oper.wp P a w next Q:=by
 by_cases hc:∃c,oper.op= .call c
 ·obtain⟨c,hop⟩:=hc;rw[hop] at hok;cases m with
  |eqs neg ks x y=>exact av (kX R hn (oper:=oper) (by rw[hop];exact hok) h) hnext
  |len x=>simp only[c7,ae] at hok;exact av (oH R hn hop hok.1 h) hnext
  |dW x=>simp only[c7,ae] at hok;exact av (nd R hn hop hok.1 h) hnext
  |app sz bytes x y=>simp only[c7,ae] at hok;exact av (oR R hn hop hok.1 h) hnext
  |jI sz bytes x y=>simp only[c7,ae] at hok;exact av (nv R hn hop hok.1 h) hnext
  |o3 zero x=>simp only[c7,ae] at hok;exact av (oM R hn hop hok.1 h) hnext
  |max x y=>simp only[c7,ae] at hok;exact av (oG R hn hop hok.1 h) hnext
  |min x y=>simp only[c7,ae] at hok;exact av (oF R hn hop hok.1 h) hnext
  |call f as lend thaw=>
   simp only[c7,ae,jS,ao,decide_eq_true_eq] at hok;obtain⟨hok,hth⟩:=hok;simp only[eA] at hok;split at hok
   ·simp[okB] at hok
   ·rename_i g hg;simp only[ae] at hok;simp only[act] at h;split at h
    ·rename_i vals hvals;obtain⟨k1,k2⟩:=fu R hok.2 hvals;have hval:a.eval g= .func (.func (F f)) #[] #[]:=by
      have:=hok.1;unfold okO at this;split at this<;>first|(cases this;done)|skip
      all_goals simp_all[Act.eval]
     obtain⟨hf,hcalls⟩:=kS R hn hcf (xs:=c.args.map a.eval) hth (by simpa using k1) (fun i v x h1 h2=>k2 i v x h1 (by simpa using h2)) h;refine fz (F f) (c.args.map a.eval) ?_ hcalls hnext;simp[execOp,hop,resolve,hg,hval,Deferred.ofValue,invoke,jl hf]
    ·cases h
   ·cases hok
  |fN x as=>
   simp only[c7,ae,jS,and_true] at hok;simp only[eA] at hok;split at hok
   ·simp[okB] at hok
   ·rename_i g hg;simp only[ae] at hok;simp only[act] at h;split at h
    ·rename_i f caps vals hx hvals;obtain⟨k1,k2⟩:=fu R hok.2 hvals;have hr:=aG R hok.1 hx;generalize hval:a.eval g=val at hr;cases hr with
     |fn _ _ cs hn' hrep=>
      have hlen:vals.length=c.args.size:=by simpa using k1
      obtain⟨hf,hcalls⟩:=kS R hn hcf (xs:=c.args.map a.eval++cs) (thaw:=[]) (by simp) (by simp[hlen,hn']) (fun i v x h1 h2=>by
       rw[aF] at h1;rw[Array.getElem?_append] at h2;simp only[Array.size_map,←hlen] at h2;split at h1
       ·rename_i hi;rw[if_pos hi] at h2;exact k2 i v x h1 (by simpa using h2)
       ·rename_i hi;rw[if_neg hi] at h2;rw[aZ,aa] at h1;obtain⟨q,hq,rfl⟩:=h1;exact .c _ _ (hrep _ q x hq h2)) h
      refine fz (F f) (c.args.map a.eval++cs) ?_ hcalls hnext;simp[execOp,hop,resolve,hg,hval,Deferred.ofValue,invoke];rw[show (cx F Pr E o w).F f=F f from rfl];simp[jl hf]
    ·cases h
   ·cases hok
  |_=>
   simp only[c7,ae,eA] at hok;exfalso;obtain⟨hok,_⟩:=hok;revert hok;split<;>simp[okB]
 ·have hne:∀c,oper.op≠.call c:=fun c e=>hc ⟨c,e⟩
  have hop:=fun hm=>mo hok hne hm
  cases m with
  |eqs neg ks x y=>exact av (kX R hn (oper:=oper) hok h) hnext
  |np=>exact av (pg R hn (hop (by intros;exact MO.noConfusion)) h) hnext
  |mv x=>exact av (ph R hn (hop (by intros;exact MO.noConfusion)) h) hnext
  |nil z=>exact av (oB R hn (hop (by intros;exact MO.noConfusion)) h) hnext
  |pick c x y=>exact av (ni R hn (hop (by intros;exact MO.noConfusion)) h) hnext
  |alloc z=>exact av (lR R hn (hop (by intros;exact MO.noConfusion)) h) hnext
  |box x=>exact av (oN R hn (hop (by intros;exact MO.noConfusion)) h) hnext
  |build z ps=>exact av (lQ R hn (hop (by intros;exact MO.noConfusion)) h) hnext
  |cm sz l z ps=>exact av (kq R hn (hop (by intros;exact MO.noConfusion)) h) hnext
  |jC sz l z ps=>exact av (nu R hn (hop (by intros;exact MO.noConfusion)) h) hnext
  |load ag k x=>exact av (nq R hn (hop (by intros;exact MO.noConfusion)) h) hnext
  |store k x y=>exact av (lN R hn (hop (by intros;exact MO.noConfusion)) (fun h1 h2=>⟨iV R h1 h2,eN R h1 h2⟩) h) hnext
  |bin op x y=>exact av (oO R hn (hop (by intros;exact MO.noConfusion)) h) hnext
  |beq ng x y=>exact av (oP R hn (hop (by intros;exact MO.noConfusion)) h) hnext
  |not x=>exact av (oA R hn (hop (by intros;exact MO.noConfusion)) h) hnext
  |neg x=>exact av (oC R hn (hop (by intros;exact MO.noConfusion)) h) hnext
  |mI k x=>exact av (oJ R hn (hop (by intros;exact MO.noConfusion)) h) hnext
  |pe x=>exact av (oQ R hn (hop (by intros;exact MO.noConfusion)) h) hnext
  |pq sz b z x=>exact av (oD R hn (hop (by intros;exact MO.noConfusion)) h) hnext
  |pt sz b z x y=>exact av (oE R hn (hop (by intros;exact MO.noConfusion)) h) hnext
  |gY x lo hi=>exact av (nc R hn (hop (by intros;exact MO.noConfusion)) h) hnext
  |jg sz x lo hi=>exact av (nf R hn (hop (by intros;exact MO.noConfusion)) h) hnext
  |oX sz x lo hi mx=>exact av (oz R hn (hop (by intros;exact MO.noConfusion)) h) hnext
  |eD off x=>exact av (lP R hn (hop (by intros;exact MO.noConfusion)) h) hnext
  |da sz x ix=>exact av (lO R hn (hop (by intros;exact MO.noConfusion)) h) hnext
  |idx x ix=>exact av (oI R hn (hop (by intros;exact MO.noConfusion)) h) hnext
  |og ag off k x=>exact av (oK R hn (hop (by intros;exact MO.noConfusion)) h) hnext
  |ext i x=>exact av (oL R hn (hop (by intros;exact MO.noConfusion)) h) hnext
  |j8 f cs=>exact av (nm R hn (hop (by intros;exact MO.noConfusion)) h) hnext
  |ln x=>exact av (nk R hn (hop (by intros;exact MO.noConfusion)) h) hnext
  |_=>have:=hop (by intros;exact MO.noConfusion);revert this;unfold aM;split<;>simp_all
theorem ee(R:Rel F Pr w0 lb N E n t o a w){ops:Array Oper}{g:Option (Nat×Bool)}{x:Oper}(h:iJ ops g x.guard=true){b:Bool}(hw:wanted t g=some b):Region.wanted x (yielded ops a.tmps)=b:=by
 unfold iJ at h;split at h
 ·rename_i h1 h2;simp only[wanted,af] at hw;subst hw;simp[Region.wanted,h2]
 ·rename_i h1 h2 g b1 j b2 hx;simp only[ae,beq_iff_eq] at h;obtain⟨rfl,hd⟩:=h;simp only[wanted] at hw;simp only[Region.wanted,hx,yielded,hd,Option.bind_some];split at hw
  ·rename_i v hv;cases hw;have:=(R.tmps g _ hv).gR.fe;rw[ax] at this;cases hq:a.tmps[g]? with
   |none=>rw[hq] at this;simp[undef] at this
   |some u=>rw[hq] at this;simp at this;subst this;simp
  ·rename_i hv;cases hw;have:=R.tmps g _ hv;cases this with
   |undef _ hb=>
    rw[ax] at hb;cases hq:a.tmps[g]? with
    |none=>simp
    |some u=>
     rw[hq] at hb;simp only[bF] at hb;cases u with
     |bool v=>exact(hb v rfl).elim
     |_=>simp
  ·cases hw
 ·cases h
end Mx
namespace Mx
open Go
def Sub(o o':List (Nat×Ob)):Prop:=∀id b,get o id=some b→get o' id=some b
variable {o o':List (Nat×Ob)}
theorem bV{α β:Type}{f g:α→Option β}(h:∀x y,f x=some y→g x=some y):∀{l:List α} {r:List β},aS f l=some r→aS g l=some r
 |[],r,hm=>hm
 |x::l,r,hm=>by
  simp only[aS] at hm ⊢;split at hm
  ·rename_i y ys h1 h2;rw[h x y h1,bV h h2];exact hm
  ·cases hm
theorem gf(S:Sub o o'){t y:T}(h:eI o t=some y):eI o' t=some y∧wr o' t=wr o t:=by
 cases t with
 |row id ar off len=>
  simp only[eI] at h ⊢;split at h
  ·rename_i b hg;rw[S id b hg];exact⟨h,by simp only[wr,hg,S id b hg]⟩
  ·cases h
 |ptr=>simp[eI] at h
 |fn=>simp[eI] at h
 |_=>exact⟨h,rfl⟩
theorem iU(S:Sub o o'){t y:T}(h:cl o t=some y):cl o' t=some y:=by
 cases t with
 |ptr=>simp[cl] at h
 |vp=>simp[cl] at h
 |fn=>simp[cl] at h
 |row id ar off len=>
  simp only[cl] at h ⊢;split at h
  ·rename_i hw;obtain⟨h1,h2⟩:=gf S h;rw[h2,if_pos hw];exact h1
  ·cases h
 |_=>exact h
theorem iO(S:Sub o o'){t y:T}(h:nM o t=some y):nM o' t=some y∧lZ o' t=lZ o t:=by
 cases t with
 |ptr id ar i j=>
  simp only[nM] at h ⊢;split at h
  ·rename_i b hg;rw[S id b hg];split at h
   ·rename_i hv;split at h
    ·rename_i r hr;rw[aa] at h;obtain⟨cells,hm,rfl⟩:=h;simp only[hv,if_true,hr];refine⟨?_, ?_⟩
     ·rw[bV (fun x y hx=>(gf S hx).1) hm];rfl
     ·simp only[lZ,hg,S id b hg,hr,wr];congr 1;have:∀x∈r,wr o' x=wr o x:=by
       intro x hx;obtain⟨k,hk⟩:=List.getElem?_of_mem hx;obtain⟨z,_,hz⟩:=fv hm hk;exact(gf S hz).2
      clear hm hr
      induction r with
      |nil=>rfl
      |cons x r ih=>simp only[bn];rw[this x (by simp),ih (fun z hz=>this z (by simp[hz]))]
    ·cases h
   ·cases h
  ·cases h
 |_=>simp only[nM,lZ] at h ⊢;exact gf S h
theorem fw(S:Sub o o'){t y:T}(h:im o t=some y):im o' t=some y∧k0 o' t=k0 o t:=by
 cases t with
 |fn f caps=>
  simp only[im,aa] at h ⊢;obtain⟨cs,hm,rfl⟩:=h;refine⟨⟨cs,bV (fun x y hx=>(iO S hx).1) hm,rfl⟩, ?_⟩;simp only[k0];have:∀x∈caps,lZ o' x=lZ o x:=by
   intro x hx;obtain⟨k,hk⟩:=List.getElem?_of_mem hx;obtain⟨z,_,hz⟩:=fv hm hk;exact(iO S hz).2
  clear hm
  induction caps with
  |nil=>rfl
  |cons x r ih=>simp only[bn];rw[this x (by simp),ih (fun z hz=>this z (by simp[hz]))]
 |_=>simp only[im,k0] at h ⊢;exact iO S h
theorem kK(S:Sub o o'){v y:V}(h:v.im o=some y):v.im o'=some y∧v.wr o'=v.wr o:=by
 cases v with
 |c t=>
  simp only[V.im,aa] at h ⊢;obtain⟨z,hz,rfl⟩:=h;exact⟨⟨z,(fw S hz).1,rfl⟩,(fw S hz).2⟩
 |a ts=>
  simp only[V.im,aa] at h ⊢;obtain⟨zs,hz,rfl⟩:=h;refine⟨⟨zs,bV (fun x y hx=>(fw S hx).1) hz,rfl⟩, ?_⟩;simp only[V.wr];have:∀x∈ts,k0 o' x=k0 o x:=by
   intro x hx;obtain⟨k,hk⟩:=List.getElem?_of_mem hx;obtain⟨z,_,hz⟩:=fv hz hk;exact(fw S hz).2
  clear hz
  induction ts with
  |nil=>rfl
  |cons x r ih=>simp only[bn];rw[this x (by simp),ih (fun z hz=>this z (by simp[hz]))]
 |fj=>simp[V.im] at h
 |undef=>simp[V.im] at h
theorem lk(S:Sub o o'){t:T}{r:List T×Nat}(h:place o t=some r):place o' t=some r:=by
 cases t with
 |ptr id ar i j=>
  simp only[place] at h ⊢;split at h
  ·rename_i b hg;rw[S id b hg];exact h
  ·cases h
 |_=>exact h
theorem dI(S:Sub o o'){t:T}{r:List (List T)}(h:rowsOf o t=some r):rowsOf o' t=some r∧eT o' t=eT o t:=by
 cases t with
 |row id ar off len=>
  simp only[rowsOf] at h ⊢;split at h
  ·rename_i b hg;rw[S id b hg];exact⟨h,by simp only[eT,hg,S id b hg]⟩
  ·cases h
 |_=>exact⟨h,rfl⟩
theorem hQ(S:Sub o o'){sz:Nat}{t:T}{r:List (List T)}(h:fB o sz t=some r):fB o' sz t=some r:=by
 cases t with
 |str s=>exact h
 |_=>
  simp only[fB] at h ⊢;split at h
  ·rename_i ys hy;rw[(dI S hy).1,(dI S hy).2];exact h
  ·cases h
theorem fG(S:Sub o o'){p:Nat}{v:V}{r:V×Nat×Ob}(h:b_ o p v=some r):b_ o' p v=some r:=by
 unfold b_ at h ⊢;split at h
 ·split at h
  ·rename_i b hg;rw[S _ b hg];simp only;split at h
   ·rename_i hc;rw[if_pos hc];rw[aa] at h ⊢;obtain⟨rows,hm,rfl⟩:=h;exact⟨rows,bV (fun x y hx=>bV (fun x y hx=>iU S hx) hx) hm,rfl⟩
   ·cases h
  ·cases h
 ·split at h
  ·rename_i b hg;rw[S _ b hg];exact h
  ·cases h
 ·cases h
theorem ib(S:Sub o o'){lend:List Nat}:∀{ts:List T} {k:Nat} {r:List T×List (Nat×Nat×Ob)×List Nat},dr o lend k ts=some r→dr o' lend k ts=some r
 |[],k,r,h=>h
 |t::ts,k,r,h=>by
  simp only[dr] at h ⊢;cases ha:dr o lend (k+1) ts with
  |none=>rw[ha] at h;cases h
  |some x=>
   obtain⟨as,ls,b⟩:=x;rw[ha] at h;rw[ib S ha];simp only at h ⊢;split at h
   ·rename_i hp;rw[if_pos hp];cases hl:b_ o k (.c t) with
    |none=>rw[hl] at h;cases h
    |some y=>rw[hl] at h;rw[fG S hl];exact h
   ·rename_i hp;rw[if_neg hp];cases hl:im o t with
    |none=>rw[hl] at h;cases h
    |some y=>rw[hl] at h;rw[(fw S hl).1,(fw S hl).2];exact h
theorem jG(S:Sub o o'){lend:List Nat}:∀{vals:List V} {p:Nat} {r:List V×List (Nat×Nat×Ob)×List Nat},args o lend p vals=some r→args o' lend p vals=some r
 |[],p,r,h=>h
 |v::vals,p,r,h=>by
  simp only[args] at h ⊢;cases ha:args o lend (p+1) vals with
  |none=>rw[ha] at h;cases h
  |some x=>
   obtain⟨as,ls,b⟩:=x;rw[ha] at h;rw[jG S ha];simp only at h ⊢;split at h
   ·rename_i hp;rw[if_pos hp];cases hl:b_ o p v with
    |none=>rw[hl] at h;cases h
    |some y=>rw[hl] at h;rw[fG S hl];exact h
   ·rename_i hp;rw[if_neg hp];split at h
    ·rename_i hc;rw[if_pos hc];split at h
     ·split at h
      ·rename_i h64;simp only[if_pos h64];split at h
       ·rename_i ts' ls' b' hcl;rw[ib S hcl];exact h
       ·cases h
      ·cases h
     ·cases h
    ·rename_i hc;rw[if_neg hc];cases hl:v.im o with
     |none=>rw[hl] at h;cases h
     |some y=>rw[hl] at h;rw[(kK S hl).1,(kK S hl).2];exact h
theorem eY(S:Sub o o'){nn:Nat}{after:List (Nat×Ob)}:∀{ls:List (Nat×Nat×Ob)} {r:List (Nat×Ob)},bL nn o after ls=some r→bL nn o' after ls=some r∧(ls.map fun l=>(l.1,l.2.1,(get o' l.2.1).elim 0 (·.ar)))=ls.map fun l=>(l.1,l.2.1,(get o l.2.1).elim 0 (·.ar))
 |[],r,h=>⟨h,rfl⟩
 |(p,id,ob)::ls,r,h=>by
  simp only[bL] at h ⊢;split at h
  ·rename_i b l h2 h3;obtain⟨i1,i2⟩:=eY S h3;rw[S id b h2,i1];refine⟨h, ?_⟩;simp only[aI,i2,h2,S id b h2]
  ·cases h
theorem gO(S:Sub o o'){cf:au}{n f:Nat}{vals:List V}{lend:List Nat}{thaw:List (Nat×Nat)}{r:V×List (Nat×Ob)}(h:br cf n o f vals lend thaw=some r):br cf n o' f vals lend thaw=some r:=by
 unfold br at h ⊢;cases ha:args o lend 0 vals with
 |none=>rw[ha] at h;cases h
 |some x=>
  obtain⟨as,ls,b⟩:=x;rw[ha] at h;rw[jG S ha];simp only at h ⊢;split at h
  ·rename_i hc;rw[if_pos hc];split at h
   ·cases h
   ·rename_i res after hres;cases hl:bL n o after ls with
    |none=>rw[hl] at h;cases h
    |some aK=>
     rw[hl] at h;obtain⟨i1,i2⟩:=eY S hl;simp only[i1,i2];exact h
  ·cases h
theorem pa{t t':List (Nat×V)}{x:O}(h:∀k∈x.tmps,get t' k=get t k):look t' x=look t x:=by
 cases x with
 |t n=>exact h n (by simp[O.tmps])
 |k v=>rfl
 |fn f=>rfl
theorem ca{α β:Type}{f g:α→Option β}:∀{l:List α},(∀x∈l,f x=g x)→aS f l=aS g l
 |[],_=>rfl
 |x::l,h=>by simp only[aS];rw[h x (by simp),ca (fun y hy=>h y (by simp[hy]))]
theorem pK{cf:au}{n d:Nat}{t t':List (Nat×V)}{m:MO}(h:∀k∈m.tmps,get t' k=get t k):act cf n d t' o m=act cf n d t o m:=by
 have L:∀x:O,(∀k∈x.tmps,k∈m.tmps)→look t' x=look t x:=fun x hx=>pa fun k hk=>h k (hx k hk)
 have LT:∀x:O,(∀k∈x.tmps,k∈m.tmps)→a8 t' x=a8 t x:=fun x hx=>by simp only[a8,L x hx]
 have LI:∀x:O,(∀k∈x.tmps,k∈m.tmps)→fE t' x=fE t x:=fun x hx=>by simp only[fE,L x hx]
 have LBo:∀x:O,(∀k∈x.tmps,k∈m.tmps)→dp t' x=dp t x:=fun x hx=>by simp only[dp,L x hx]
 have LN:∀x:O,(∀k∈x.tmps,k∈m.tmps)→cT t' x=cT t x:=fun x hx=>by simp only[cT,L x hx]
 have LG:∀x:O,(∀k∈x.tmps,k∈m.tmps)→gD t' x=gD t x:=fun x hx=>by simp only[gD,L x hx]
 have LA:∀x:O,(∀k∈x.tmps,k∈m.tmps)→dq t' x=dq t x:=fun x hx=>by simp only[dq,L x hx]
 have LO:∀(x:Option O) (dd:Nat),(∀k∈fD x,k∈m.tmps)→fT t' dd x=fT t dd x:=fun x dd hx=>by
  cases x with
  |none=>rfl
  |some x=>exact LN x hx
 cases m with
 |build zero parts=>
  simp only[act];congr 1;apply ca;intro x hx;rw[LA x.2.2 (fun k hk=>by simp only[MO.tmps,a_];exact⟨x,hx,hk⟩)]
 |cm sz len zero parts=>
  simp only[act];congr 1;apply ca;intro x hx;rw[LA x.2 (fun k hk=>by simp only[MO.tmps,a_];exact⟨x,hx,hk⟩)]
 |jC sz len zero parts=>
  simp only[act];congr 1;apply ca;intro x hx;rw[LA x.2 (fun k hk=>by simp only[MO.tmps,a_];exact⟨x,hx,hk⟩)]
 |call f as lend thaw=>
  simp only[act];rw[ca (f:=look t') (g:=look t) fun x hx=>L x fun k hk=>by simp only[MO.tmps,a_];exact⟨x,hx,hk⟩]
 |fN f as=>
  simp only[act];rw[ca (f:=look t') (g:=look t) fun x hx=>L x fun k hk=>by simp only[MO.tmps,dT,a_];exact .inr ⟨x,hx,hk⟩,LT f fun k hk=>by simp only[MO.tmps,dT];exact .inl hk]
 |j8 f caps=>
  simp only[act];rw[ca (f:=a8 t') (g:=a8 t) fun x hx=>LT x fun k hk=>by simp only[MO.tmps,a_];exact⟨x,hx,hk⟩]
 |pick c x y=>
  simp only[act];rw[LBo c (fun k hk=>by simp[MO.tmps,hk])];cases dp t c with
  |none=>rfl
  |some b=>cases b<;>simp[L x (fun k hk=>by simp[MO.tmps,hk]),L y (fun k hk=>by simp[MO.tmps,hk])]
 |gY x lo hi=>
  simp only[act];rw[LT x (fun k hk=>by simp[MO.tmps,hk])];cases a8 t x with
  |none=>rfl
  |some z=>cases z<;>first|rfl|(simp only[LO lo 0 (fun k hk=>by simp[MO.tmps,hk]),LO hi _ (fun k hk=>by simp[MO.tmps,hk])])
 |jg sz x lo hi=>
  simp only[act];rw[LT x (fun k hk=>by simp[MO.tmps,hk])];simp only[LO lo 0 (fun k hk=>by simp[MO.tmps,hk]),LO hi _ (fun k hk=>by simp[MO.tmps,hk])]
 |oX sz x lo hi mx=>
  simp only[act];rw[LT x (fun k hk=>by simp[MO.tmps,hk])];simp only[LO lo 0 (fun k hk=>by simp[MO.tmps,hk]),LO hi _ (fun k hk=>by simp[MO.tmps,hk]),LO mx _ (fun k hk=>by simp[MO.tmps,hk])]
 |_=>simp only[act,MO.tmps,dT] at* <;>simp_all
theorem oy(S:Sub o o'){cf:au}{n d:Nat}{t:List (Nat×V)}{m:MO}{r:V×List (Nat×Ob)}(h:act cf n d t o m=some r):act cf n d t o' m=some r:=by
 cases m with
 |cm sz len zero parts=>
  simp only[act,aa] at h ⊢;obtain⟨ps,hm,rfl⟩:=h;refine⟨ps,bV ?_ hm,rfl⟩;intro x y hx;split at hx
  ·split at hx
   ·rename_i hc;rw[if_pos hc];rw[aa] at hx ⊢;obtain⟨z,hz,rfl⟩:=hx;exact⟨z,bV (fun x y hx=>iU S hx) hz,rfl⟩
   ·cases hx
  ·cases hx
 |jC sz len zero parts=>
  simp only[act,aa] at h ⊢;obtain⟨ps,hm,rfl⟩:=h;refine⟨ps,bV ?_ hm,rfl⟩;intro x y hx;split at hx
  ·split at hx
   ·rename_i hc;rw[if_pos hc];rw[aa] at hx ⊢;obtain⟨z,hz,rfl⟩:=hx;exact⟨z,bV (fun x y hx=>iU S hx) hz,rfl⟩
   ·cases hx
  ·cases hx
 |load agg k a=>
  simp only[act] at h ⊢;split at h
  ·cases h
  ·split at h
   ·cases h
   ·rename_i hp;rw[lk S hp];exact h
 |store k a x=>
  simp only[act] at h ⊢;split at h
  ·rename_i cs0 _ _;split at h
   ·rename_i b hg;rw[S _ b hg];simp only;split at h
    ·rename_i hc;rw[if_pos hc];split at h
     ·rename_i cs hr hcs;rw[hr];have:(if b.bx=true then some cs0 else aS (cl o') cs0)=some cs:=by
       split at hcs
       ·rename_i hb;rw[if_pos hb];exact hcs
       ·rename_i hb;rw[if_neg hb];exact bV (fun x y hx=>iU S hx) hcs
      rw[this];exact h
     ·cases h
    ·cases h
   ·cases h
  ·cases h
 |pe x=>
  simp only[act] at h ⊢;split at h
  ·split at h
   ·rename_i rows hr;rw[(dI S hr).1,(dI S hr).2];exact h
   ·cases h
  ·cases h
 |jg sz x lo hi=>
  simp only[act] at h ⊢;split at h
  ·split at h
   ·rename_i b l u hg h1 h2;rw[S _ b hg,h1,h2];exact h
   ·cases h
  ·cases h
 |jI sz bytes x y=>
  simp only[act] at h ⊢;split at h
  ·split at h
   ·rename_i ys b hy hg;rw[hQ S hy,S _ b hg];exact h
   ·cases h
  ·cases h
 |oX sz x lo hi mx=>
  simp only[act] at h ⊢;split at h
  ·split at h
   ·split at h
    ·split at h
     ·rename_i hc;rw[if_pos hc];split at h
      ·rename_i hm;rw[if_pos hm];exact h
      ·rename_i hm;rw[if_neg hm];split at h
       ·exact h
       ·exact h
       ·split at h
        ·rename_i b hg;rw[S _ b hg];exact h
        ·cases h
       ·cases h
     ·cases h
    ·cases h
   ·cases h
  ·cases h
 |da sz x ix=>
  simp only[act] at h ⊢;split at h
  ·split at h
   ·rename_i b hg;rw[S _ b hg];exact h
   ·cases h
  ·exact h
  ·cases h
 |app sz bytes x y=>
  simp only[act] at h ⊢;split at h
  ·split at h
   ·cases h
   ·rename_i ys hy;rw[hQ S hy];simp only;split at h
    ·rename_i hb;rw[if_pos hb];split at h
     ·exact h
     ·split at h
      ·rename_i b hg;rw[S _ b hg];exact h
      ·cases h
     ·cases h
    ·cases h
  ·cases h
 |o3 zero x=>
  simp only[act] at h ⊢;split at h
  ·exact h
  ·exact h
  ·split at h
   ·rename_i b hg;rw[S _ b hg];exact h
   ·cases h
  ·cases h
 |call f as lend thaw=>
  simp only[act] at h ⊢;split at h
  ·exact gO S h
  ·cases h
 |fN x as=>
  simp only[act] at h ⊢;split at h
  ·exact gO S h
  ·cases h
 |_=>exact h
end Mx
namespace Mx
open Go
def bP(S:Nat→Bool):Nat→List cE→List (Nat×V)→List (Nat×V)
 |_,[],t=>t
 |i,e::es,t=>bP S (i+1) es (if S i then cC t e.dst e.v else t)
def bY(S:Nat→Bool):Nat→List cE→List (Nat×Ob)→List (Nat×Ob)
 |_,[],o=>o
 |i,e::es,o=>bY S (i+1) es (if S i then e.aK++o else o)
theorem d_(t:List (Nat×V))(d:Option Nat)(v:V)(x:Nat):get (cC t d v) x=if d=some x then some v else get t x:=by
 cases d with
 |none=>rfl
 |some d=>
  simp only[cC,get,af];by_cases h:x=d
  ·subst h;simp
  ·have:¬d=x:=fun e=>h e.symm
   simp[h,this]
theorem bZ{α:Type}:∀{l:List (Nat×α)} {x:Nat},x∉l.map (·.1)→get l x=none
 |[],_,_=>rfl
 |(k,v)::l,x,h=>by
  simp only[aI,List.mem_cons,not_or] at h;simp only[get,if_neg h.1];exact bZ h.2
theorem dP{S S':Nat→Bool}{x:Nat}:∀{es:List cE} {i:Nat} {t t':List (Nat×V)},(∀j e,es[j]? =some e→e.dst=some x→S (i+j)=S' (i+j))→get t x=get t' x→get (bP S i es t) x=get (bP S' i es t') x
 |[],i,t,t',_,h=>h
 |e::es,i,t,t',hs,h=>by
  simp only[bP];refine dP (fun j e' h1 h2=>by have:=hs (j+1) e' (by simpa using h1) h2;rw[show i+1+j=i+(j+1) from by omega];exact this) ?_;by_cases hd:e.dst=some x
  ·have:=hs 0 e (by simp) hd;simp only[Nat.add_zero] at this;rw[this];split
   ·simp[d_,hd]
   ·exact h
  ·have e1:∀t:List (Nat×V),get (cC t e.dst e.v) x=get t x:=fun t=>by rw[d_,if_neg hd]
   split<;>split<;>simp[e1,h]
theorem dQ{S S':Nat→Bool}{x:Nat}:∀{es:List cE} {i:Nat} {t t':List (Nat×Ob)},(∀j e,es[j]? =some e→x∈e.W→S (i+j)=S' (i+j))→get t x=get t' x→get (bY S i es t) x=get (bY S' i es t') x
 |[],i,t,t',_,h=>h
 |e::es,i,t,t',hs,h=>by
  simp only[bY];refine dQ (fun j e' h1 h2=>by have:=hs (j+1) e' (by simpa using h1) h2;rw[show i+1+j=i+(j+1) from by omega];exact this) ?_;by_cases hd:x∈e.W
  ·have:=hs 0 e (by simp) hd;simp only[Nat.add_zero] at this;rw[this];split
   ·simp[get_append,h]
   ·exact h
  ·have e1:∀t:List (Nat×Ob),get (e.aK++t) x=get t x:=fun t=>by rw[get_append,bZ hd];simp
   split<;>split<;>simp[e1,h]
theorem jJ{S S':Nat→Bool}:∀{es:List cE} {i:Nat} {t:List (Nat×V)},(∀j,j<es.length→S (i+j)=S' (i+j))→bP S i es t=bP S' i es t
 |[],_,_,_=>rfl
 |e::es,i,t,h=>by
  simp only[bP];have h0:=h 0 (by simp);simp only[Nat.add_zero] at h0;rw[h0];exact jJ fun j hj=>by rw[show i+1+j=i+(j+1) from by omega];exact h (j+1) (by simp;omega)
theorem jL{S S':Nat→Bool}:∀{es:List cE} {i:Nat} {t:List (Nat×Ob)},(∀j,j<es.length→S (i+j)=S' (i+j))→bY S i es t=bY S' i es t
 |[],_,_,_=>rfl
 |e::es,i,t,h=>by
  simp only[bY];have h0:=h 0 (by simp);simp only[Nat.add_zero] at h0;rw[h0];exact jL fun j hj=>by rw[show i+1+j=i+(j+1) from by omega];exact h (j+1) (by simp;omega)
def bB(S:Nat→Bool)(k:Nat):Nat→Bool:=fun j=>S j||j==k
theorem jK{S:Nat→Bool}{x:Nat}:∀{es:List cE} {i k:Nat} {e:cE} {t:List (Nat×V)},i≤k→es[k-i]? =some e→(∀j e',es[j]? =some e'→S (i+j)=true→k<i+j→e.dst=some x→e'.dst≠some x)→S k=false→
  get (bP (bB S k) i es t) x=get (cC (bP S i es t) e.dst e.v) x
 |[],i,k,e,t,hk,he,_,_=>by simp at he
 |f::es,i,k,e,t,hk,he,hw,hS=>by
  simp only[bP];by_cases hik:i=k
  ·subst hik;simp at he;subst he;have h1:bB S i i=true:=by simp[bB]
   rw[h1,hS];simp only[if_true,aD,if_false];rw[d_];by_cases hd:f.dst=some x
   ·rw[if_pos hd];have:get (bP (fun _=>false) (i+1) es (cC t f.dst f.v)) x=some f.v:=by
     have z:∀(es:List cE) (i:Nat) (t:List (Nat×V)),bP (fun _=>false) i es t=t:=by
      intro es
      induction es with
      |nil=>intro i t;rfl
      |cons e es ih=>intro i t;simp only[bP];exact ih _ _
     rw[z,d_,if_pos hd]
    rw[←this];refine dP (fun j e' h1 h2=> ?_) rfl;cases hq:bB S i (i+1+j) with
    |false=>rfl
    |true=>
     exfalso;have hq':S (i+1+j)=true:=by simp only[bB,Bool.or_eq_true,beq_iff_eq] at hq;rcases hq with q|q;exact q;omega
     exact hw (j+1) e' (by simpa using h1) (by rw[show i+(j+1)=i+1+j from by omega];exact hq') (by omega) hd h2
   ·rw[if_neg hd];exact dP (fun j e' h1 h2=>by have:¬(i+1+j=i):=(by omega);simp[bB,this]) (by rw[d_,if_neg hd])
  ·have h1:bB S k i=S i:=by have:¬(i=k):=hik;simp[bB,this]
   rw[h1];refine jK (by omega) ?_ (fun j e' q1 q2 q3 q4=>hw (j+1) e' (by simpa using q1) (by rw[show i+(j+1)=i+1+j from by omega];exact q2) (by omega) q4) hS;rw[show k-i=(k-(i+1))+1 from by omega] at he;simpa using he
theorem jM{S:Nat→Bool}{x:Nat}:∀{es:List cE} {i k:Nat} {e:cE} {t:List (Nat×Ob)},i≤k→es[k-i]? =some e→(∀j e',es[j]? =some e'→S (i+j)=true→k<i+j→x∈e.W→x∉e'.W)→S k=false→
  get (bY (bB S k) i es t) x=get (e.aK++bY S i es t) x
 |[],i,k,e,t,hk,he,_,_=>by simp at he
 |f::es,i,k,e,t,hk,he,hw,hS=>by
  simp only[bY];by_cases hik:i=k
  ·subst hik;simp at he;subst he;have h1:bB S i i=true:=by simp[bB]
   rw[h1,hS];simp only[if_true,aD,if_false];by_cases hd:x∈f.W
   ·have z:∀(es:List cE) (i:Nat) (t:List (Nat×Ob)),bY (fun _=>false) i es t=t:=by
     intro es
     induction es with
     |nil=>intro i t;rfl
     |cons e es ih=>intro i t;simp only[bY];exact ih _ _
    have hno:∀(S':Nat→Bool),(∀j,S' (i+1+j)=S (i+1+j))→∀t:List (Nat×Ob),get (bY S' (i+1) es t) x=get t x:=by
     intro S' hS' t;have:get (bY (fun _=>false) (i+1) es t) x=get t x:=by rw[z]
     rw[←this];refine dQ (fun j e' h1 h2=> ?_) rfl;cases hq:S' (i+1+j) with
     |false=>rfl
     |true=>
      exfalso;rw[hS'] at hq;exact hw (j+1) e' (by simpa using h1) (by rw[show i+(j+1)=i+1+j from by omega];exact hq) (by omega) hd h2
    rw[hno (bB S i) (fun j=>by have:¬(i+1+j=i):=(by omega);simp[bB,this]),get_append,get_append,hno S (fun _=>rfl)]
   ·rw[get_append,bZ hd];simp only[Option.none_or];exact dQ (fun j e' h1 h2=>by have:¬(i+1+j=i):=(by omega);simp[bB,this]) (by rw[get_append,bZ hd];simp)
  ·have h1:bB S k i=S i:=by have:¬(i=k):=hik;simp[bB,this]
   rw[h1];refine jM (by omega) ?_ (fun j e' q1 q2 q3 q4=>hw (j+1) e' (by simpa using q1) (by rw[show i+(j+1)=i+1+j from by omega];exact q2) (by omega) q4) hS;rw[show k-i=(k-(i+1))+1 from by omega] at he;simpa using he
theorem fA{cf:au}{n:Nat}:∀{ms:List cr} {as:List (List Nat)} {i:Nat} {t:List (Nat×V)} {o:List (Nat×Ob)} {acc:List (Nat×cE)} {r:List (Nat×V)×List (Nat×Ob)},bg cf n i ms as t o acc=some r→
  ∃es:List cE,es.length=ms.length∧r=(bP (fun _=>true) i es t,bY (fun _=>true) i es o)∧
   ∀j m,ms[j]? =some m→∃a e,as[j]? =some a∧es[j]? =some e∧cq cf n (i+j) m (bP (fun q=>decide (q<i+j)) i es t) (bY (fun q=>decide (q<i+j)) i es o)=some e∧
    (∀x∈acc,a.contains x.1=true∨e.apart x.2=true)∧(∀j' e',j'<j→es[j']? =some e'→a.contains (i+j')=true∨e.apart e'=true)
 |[],as,i,t,o,acc,r,h=>by
  simp only[bg,af] at h;subst h;exact⟨[],rfl,rfl,fun j m hj=>by simp at hj⟩
 |m::ms,[],i,t,o,acc,r,h=>by simp[bg] at h
 |m::ms,a::as,i,t,o,acc,r,h=>by
  simp only[bg] at h;split at h
  ·rename_i e he;split at h
   ·rename_i hc;obtain⟨es,h1,h2,h3⟩:=fA h;have z:∀(es:List cE) (k:Nat) (t:List (Nat×V)),i≤k→bP (fun q=>decide (q<i)) k es t=t:=by
     intro es
     induction es with
     |nil=>intro k t _;rfl
     |cons e es ih=>intro k t hk;simp only[bP];rw[if_neg (by simp;omega)];exact ih _ _ (by omega)
    have z2:∀(es:List cE) (k:Nat) (t:List (Nat×Ob)),i≤k→bY (fun q=>decide (q<i)) k es t=t:=by
     intro es
     induction es with
     |nil=>intro k t _;rfl
     |cons e es ih=>intro k t hk;simp only[bY];rw[if_neg (by simp;omega)];exact ih _ _ (by omega)
    refine⟨e::es,by simp[h1], ?_, ?_⟩
    ·rw[h2];simp only[bP,bY,if_true]
    ·intro j m' hj;cases j with
     |zero=>
      simp at hj;subst hj;refine⟨a,e,rfl,rfl, ?_, ?_,fun j' e' h=>by omega⟩
      ·rw[Nat.add_zero,z _ _ _ (Nat.le_refl _),z2 _ _ _ (Nat.le_refl _)];exact he
      ·intro x hx;simp only[ao,Bool.or_eq_true] at hc;exact hc x hx
     |succ j=>
      obtain⟨a',e',q1,q2,q3,q4,q5⟩:=h3 j m' (by simpa using hj);refine⟨a',e',by simpa using q1,by simpa using q2, ?_,fun x hx=>q4 x (aU _ hx), ?_⟩
      ·simp only[bP,bY];rw[if_pos (by simp),if_pos (by simp),show i+(j+1)=i+1+j from by omega];exact q3
      ·intro j' e2 hj' he2;cases j' with
       |zero=>
        simp at he2;subst he2;exact q4 (i,e) (bd ..)
       |succ j'=>
        have:=q5 j' e2 (by omega) (by simpa using he2);rw[show i+(j'+1)=i+1+j' from by omega];exact this
   ·cases h
  ·cases h
def mK(m:cr):List Nat:=match m.guard with
 |some (g,_)=>[g]
 |none=>[]
def gx(m:cr):List Nat:=m.op.tmps++mK m
def eE(m m':cr):Bool:=(match m.dst with|some d=> !(gx m').contains d&&(m'.dst !=some d)|none=>true)&&(match m'.dst with|some d=> !(gx m).contains d|none=>true)
def ew(P:Program)(F:Nat→FuncId)(N:Nat)(xs:Array Oper)(ms:List cr)(as:List (List Nat))(i:Nat):Bool:=
 match ms[i]?,as[i]?,xs[i]? with
 |some m,some a,some x=>
  kG P F N xs m x&&a.all (fun j=>decide (j<i))&&a.all (fun j=>x.after.any fun e=>Region.binds .any e&&(e.on==j||(match as[e.on]? with|some b=>b.contains j|none=>false)))&&
  x.after.all (fun e=> !Region.binds .any e||decide (e.on<i))&&(List.range i).all fun j=>a.contains j||(match ms[j]? with|some m'=>eE m m'|none=>false)
 |_,_,_=>false
def mi(P:Program)(F:Nat→FuncId)(N:Nat)(xs:Array Oper)(ms:List cr)(as:List (List Nat)):Bool:=
 P.follows .mixedOrders&&ms.length==xs.size&&(List.range ms.length).all (ew P F N xs ms as)
def NS(nb:Nat)(S:Nat→Bool)(k:Nat):Prop:=k<nb∨∃i,S i=true∧nb+16*i≤k∧k<nb+16*i+16
theorem oY{nb:Nat}{S:Nat→Bool}{i:Nat}(h:S i=false):Fr (NS nb S) (nb+16*i) (NS nb (bB S i)):=by
 refine⟨?_, ?_, ?_⟩
 ·rintro k h1 h2 (h3|⟨j,h3,h4,h5⟩)
  ·omega
  ·have:j=i:=by omega
   subst this;rw[h] at h3;cases h3
 ·rintro k (h3|⟨j,h3,h4,h5⟩)
  ·exact .inl h3
  ·exact .inr ⟨j,by simp[bB,h3],h4,h5⟩
 ·intro k h1 h2;exact .inr ⟨i,by simp[bB],h1,by omega⟩
theorem kO{cf:au}{n i:Nat}{m:cr}{t:List (Nat×V)}{o:List (Nat×Ob)}{e:cE}(h:cq cf n i m t o=some e):e.dst=m.dst:=by
 unfold cq at h;split at h
 ·rw[aa] at h;obtain⟨r,_,rfl⟩:=h;rfl
 ·cases h;rfl
 ·cases h
variable {P:Program} {F:Nat→FuncId} {Pr:Nat→Prop} {w0:World} {lb:Lb} {N:Nat}
theorem Rel.mu{E:Nat→Option Loc}{n n':Nat→Prop}{t:List (Nat×V)}{o:List (Nat×Ob)}{a:Act}{w:World}(R:Rel F Pr w0 lb N E n t o a w)(h:∀k,n k→n' k):Rel F Pr w0 lb N E n' t o a w:=R.same rfl rfl rfl rfl h
theorem Rel.pF{E:Nat→Option Loc}{n:Nat→Prop}{t t':List (Nat×V)}{o o':List (Nat×Ob)}{a:Act}{w:World}(R:Rel F Pr w0 lb N E n t o a w)(ht:∀x,get t' x=get t x)(ho:∀x,get o' x=get o x):Rel F Pr w0 lb N E n t' o' a w:=
 R.sub (fun d v h=>by rw[←ht];exact h) fun id ob h=>⟨ob,by rw[←ho];exact h,rfl,rfl,rfl,rfl,fun h=>h⟩
section
variable {cf:au} {xs:Array Oper} {ms:List cr} {as:List (List Nat)} {nb:Nat} {es:List cE} {t0:List (Nat×V)} {o0:List (Nat×Ob)}
theorem lD(hok:(List.range ms.length).all (ew P F N xs ms as)=true)
  (hes:∀j m,ms[j]? =some m→∃a e,as[j]? =some a∧es[j]? =some e∧cq cf nb j m (bP (fun q=>decide (q<j)) 0 es t0) (bY (fun q=>decide (q<j)) 0 es o0)=some e∧(∀j' e',j'<j→es[j']? =some e'→a.contains j'=true∨e.apart e'=true))
  (hlen:es.length=ms.length) {S:Nat→Bool} {i:Nat} {m:cr} {e:cE} (hi:ms[i]? =some m) (he:es[i]? =some e) (hS:S i=false)
  (hanc:∀a,as[i]? =some a→∀j∈a,S j=true) (hdown:∀j a,as[j]? =some a→S j=true→∀k∈a,S k=true):
  (∀x∈gx m,get (bP S 0 es t0) x=get (bP (fun q=>decide (q<i)) 0 es t0) x)∧
  (∀x∈e.T,get (bY S 0 es o0) x=get (bY (fun q=>decide (q<i)) 0 es o0) x)∧
  (∀x,get (bP (bB S i) 0 es t0) x=get (cC (bP S 0 es t0) e.dst e.v) x)∧
  (∀x,get (bY (bB S i) 0 es o0) x=get (e.aK++bY S 0 es o0) x):=by
 have one:∀j,j<ms.length→ew P F N xs ms as j=true:=by
  intro j hj;simp only[ao,List.mem_range] at hok;exact hok j hj
 have two:∀(j k:Nat) (mj:cr) (ek' ej:cE),j<k→ms[k]? =some mj→es[k]? =some ek'→es[j]? =some ej→(∃a,as[k]? =some a∧j∈a)∨(ek'.apart ej=true∧∃mj',ms[j]? =some mj'∧eE mj mj'=true):=by
  intro j k mk ek ej hjk hk hek hej;obtain⟨a,e',q1,q2,_,q4⟩:=hes k mk hk;rw[hek] at q2;cases q2;by_cases hc:a.contains j=true
  ·exact .inl ⟨a,q1,by simpa using hc⟩
  ·refine .inr ⟨(q4 j ej hjk hej).resolve_left hc, ?_⟩;have:=one k (List.getElem?_eq_some_iff.1 hk).1;unfold ew at this;rw[hk,q1] at this;split at this
   ·rename_i m1 a1 x1 e1 e2 e3;cases e1;cases e2;simp only[ae,ao,List.mem_range,Bool.or_eq_true] at this;have h2:=(this.2 j hjk).resolve_left hc;split at h2
    ·rename_i m' hm';exact⟨m',hm',h2⟩
    ·cases h2
   ·cases this
 have msOf:∀(j:Nat) (ej:cE),es[j]? =some ej→∃mj,ms[j]? =some mj∧ej.dst=mj.dst:=by
  intro j ej hj;have hlt:j<ms.length:=by rw[←hlen];exact(List.getElem?_eq_some_iff.1 hj).1
  obtain⟨a,e',_,q2,q3,_⟩:=hes j ms[j] (by simp[hlt]);rw[hj] at q2;cases q2;exact⟨ms[j],by simp[hlt],kO q3⟩
 have side:∀(j:Nat) (ej:cE),es[j]? =some ej→j≠i→(S j=decide (j<i))∨(∃mj,ms[j]? =some mj∧ej.dst=mj.dst∧((j<i∧e.apart ej=true∧eE m mj=true)∨(i<j∧ej.apart e=true∧eE mj m=true))):=by
  intro j ej hj hne;obtain⟨mj,hmj,hd⟩:=msOf j ej hj;rcases Nat.lt_or_gt_of_ne hne with h|h
  ·rcases two j i m e ej h hi he hj with⟨a,h1,h2⟩|⟨h1,mj',h2,h3⟩
   ·left;rw[hanc a h1 j h2];simp[h]
   ·rw[hmj] at h2;cases h2;exact .inr ⟨mj,hmj,hd,.inl ⟨h,h1,h3⟩⟩
  ·rcases two i j mj ej e h hmj hj he with⟨a,h1,h2⟩|⟨h1,mi',h2,h3⟩
   ·left;have:S j=false:=by
     cases hq:S j with
     |false=>rfl
     |true=>have:=hdown j a h1 hq i h2;rw[hS] at this;cases this
    rw[this];simp;omega
   ·rw[hi] at h2;cases h2;exact .inr ⟨mj,hmj,hd,.inr ⟨h,h1,h3⟩⟩
 have hed:e.dst=m.dst:=by
  obtain⟨m',h1,h2⟩:=msOf i e he;rw[hi] at h1;cases h1;exact h2
 refine⟨?_, ?_, ?_, ?_⟩
 ·intro x hx;refine dP (fun j ej hj hd=> ?_) rfl;rw[Nat.zero_add];by_cases hne:j=i
  ·subst hne;rw[hS];simp
  ·rcases side j ej hj hne with h|⟨mj,_,hdj,⟨_,_,h⟩|⟨_,_,h⟩⟩
   ·exact h
   ·exfalso;rw[hdj] at hd;simp only[eE,hd,ae,Bool.not_eq_true'] at h;have:=h.2;simp at this;exact this hx
   ·exfalso;rw[hdj] at hd;simp only[eE,hd,ae,Bool.not_eq_true'] at h;have:=h.1.1;simp at this;exact this hx
 ·intro x hx;refine dQ (fun j ej hj hd=> ?_) rfl;rw[Nat.zero_add];by_cases hne:j=i
  ·subst hne;rw[hS];simp
  ·rcases side j ej hj hne with h|⟨mj,_,hdj,⟨_,h,_⟩|⟨_,h,_⟩⟩
   ·exact h
   ·exfalso;simp only[cE.apart,ae,ao,Bool.not_eq_true'] at h;have:=h.2 x hd;simp at this;exact this hx
   ·exfalso;simp only[cE.apart,ae,ao,Bool.not_eq_true'] at h;have:=(h.1 x hd).1;simp at this;exact this hx
 ·intro x;refine jK (Nat.zero_le _) (by simpa using he) ?_ hS;intro j ej hj hSj hlt hd hdj;rw[Nat.zero_add] at hSj hlt;rcases side j ej hj (by omega) with h|⟨mj,_,hdj',⟨h0,_,h⟩|⟨_,_,h⟩⟩
  ·rw[hSj] at h;simp at h;omega
  ·omega
  ·rw[hdj'] at hdj;rw[hed] at hd;simp[eE,hdj,hd] at h
 ·intro x;refine jM (Nat.zero_le _) (by simpa using he) ?_ hS;intro j ej hj hSj hlt hd hdj;rw[Nat.zero_add] at hSj hlt;rcases side j ej hj (by omega) with h|⟨mj,_,hdj',⟨h0,_,h⟩|⟨_,h,_⟩⟩
  ·rw[hSj] at h;simp at h;omega
  ·omega
  ·simp only[cE.apart,ae,ao,Bool.not_eq_true'] at h;have:=(h.1 x hdj).2;simp at this;exact this hd
end
end Mx
namespace Mx
open Go
variable {P:Program} {F:Nat→FuncId} {Pr:Nat→Prop} {w0:World} {lb:Lb} {N:Nat}
section
variable {cf:au} {xs:Array Oper} {ms:List cr} {as:List (List Nat)} {nb:Nat} {es:List cE} {t0:List (Nat×V)} {o0:List (Nat×Ob)}
theorem fb{α:Type}(ks:List Nat)(l:List (Nat×α)){x:Nat}{v:α}(h:get (keep ks l) x=some v):x∈ks:=by
 induction ks with
 |nil=>simp[keep,get] at h
 |cons k ks ih=>
  simp only[keep,List.filterMap_cons] at h;cases hk:get l k with
  |none=>simp only[hk,Option.map_none] at h;exact aU _ (ih h)
  |some u=>
   simp only[hk,bA,get] at h;split at h
   ·rename_i e;subst e;exact bd ..
   ·exact aU _ (ih h)
theorem lj{L:Array Bool}(hL:L.size=xs.size)(hsz:ms.length=xs.size)(hok:(List.range ms.length).all (ew P F N xs ms as)=true)(h:Region.ready .any xs L=[]):∀i,i<xs.size→L.getD i false=true:=by
 intro i
 induction i using Nat.strongRecOn with
 |_ i ih=>
  intro hi;cases hq:L.getD i false with
  |true=>rfl
  |false=>
   exfalso;have hone:ew P F N xs ms as i=true:=by
    simp only[ao,List.mem_range] at hok;exact hok i (by omega)
   unfold ew at hone;split at hone
   ·rename_i m a x e1 e2 e3;simp only[ae] at hone;have hbef:=hone.1.2;have:i∈Region.ready .any xs L:=by
     rw[mem_ready];refine⟨?_,x,e3,fun e he hb=> ?_⟩
     ·have hlt:i<L.size:=by omega
      simp[hlt] at hq ⊢;exact hq
     ·rw[Array.all_eq_true_iff_forall_mem] at hbef;have:=hbef e he;rw[hb] at this;simp at this;exact ih e.on this (by omega)
    rw[h] at this;simp at this
   ·cases hone
theorem m7(hcf:ec P F cf)(hsz:ms.length=xs.size)(hok:(List.range ms.length).all (ew P F N xs ms as)=true)
  (hes:∀j m,ms[j]? =some m→∃a e,as[j]? =some a∧es[j]? =some e∧cq cf nb j m (bP (fun q=>decide (q<j)) 0 es t0) (bY (fun q=>decide (q<j)) 0 es o0)=some e∧(∀j' e',j'<j→es[j']? =some e'→a.contains j'=true∨e.apart e'=true))
  (hlen:es.length=ms.length) {Q:Exit→Act→World→Prop}
  (hq:∀E' a' w',Rel F Pr w0 lb N E' (fun k=>k<nb+16*ms.length) (bP (fun _=>true) 0 es t0) (bY (fun _=>true) 0 es o0) a' w'→Q .normal a' w'):
  ∀(fuel:Nat) (L:Array Bool) {E:Nat→Option Loc} {a:Act} {w:World},L.size=xs.size→((List.range xs.size).filter fun i=> !L.getD i false).length≤fuel→
   (∀i b,as[i]? =some b→L.getD i false=true→∀j∈b,L.getD j false=true)→
   Rel F Pr w0 lb N E (NS nb fun j=>L.getD j false) (bP (fun j=>L.getD j false) 0 es t0) (bY (fun j=>L.getD j false) 0 es o0) a w→wpAny P .any xs Q fuel L a w:=by
 have done:∀(L:Array Bool) {E:Nat→Option Loc} {a:Act} {w:World},L.size=xs.size→(∀i,i<xs.size→L.getD i false=true)→
   Rel F Pr w0 lb N E (NS nb fun j=>L.getD j false) (bP (fun j=>L.getD j false) 0 es t0) (bY (fun j=>L.getD j false) 0 es o0) a w→Q .normal a w:=by
  intro L E a w hL hall R;have e1:bP (fun j=>L.getD j false) 0 es t0=bP (fun _=>true) 0 es t0:=jJ fun j hj=>by rw[Nat.zero_add];exact hall j (by omega)
  have e2:bY (fun j=>L.getD j false) 0 es o0=bY (fun _=>true) 0 es o0:=jL fun j hj=>by rw[Nat.zero_add];exact hall j (by omega)
  rw[e1,e2] at R;refine hq E a w (R.mu ?_);rintro k (h|⟨i,h1,h2,h3⟩)
  ·omega
  ·have:i<L.size:=by
    rcases Nat.lt_or_ge i L.size with q|q
    ·exact q
    ·simp[Array.getElem?_eq_none q] at h1
   omega
 intro fuel
 induction fuel with
 |zero=>
  intro L E a w hL hcount hdown R;have hall:∀i,i<xs.size→L.getD i false=true:=by
   intro i hi;cases hx:L.getD i false with
   |true=>rfl
   |false=>
    exfalso;have:i∈(List.range xs.size).filter fun i=> !L.getD i false:=by
     rw[List.mem_filter,List.mem_range];exact⟨hi,by rw[hx];rfl⟩
    have hlen0:=List.length_pos_of_mem this;omega
  refine⟨?_,done L hL hall R⟩;cases hr:Region.ready .any xs L with
  |nil=>rfl
  |cons i rest=>
   exfalso;have hi:i∈Region.ready .any xs L:=by rw[hr];exact bd ..
   rw[mem_ready] at hi;obtain⟨h0,o,ho,_⟩:=hi;have hlt:i<xs.size:=(Array.getElem?_eq_some_iff.1 ho).1;have h1:=hall i hlt;have hlt2:i<L.size:=by omega
   simp[hlt2] at h0 h1;rw[h0] at h1;cases h1
 |succ fuel ih=>
  intro L E a w hL hcount hdown R;refine⟨fun hr=>done L hL (lj hL hsz hok hr) R, ?_⟩;intro i hi;rw[mem_ready] at hi;obtain⟨h0,x,hx,hedges⟩:=hi;have hlt:i<xs.size:=(Array.getElem?_eq_some_iff.1 hx).1;have hlt2:i<L.size:=by omega
  have hSi:L.getD i false=false:=by simp[hlt2] at h0 ⊢;exact h0
  have hone:ew P F N xs ms as i=true:=by
   simp only[ao,List.mem_range] at hok;exact hok i (by omega)
  unfold ew at hone;split at hone;rotate_left
  ·cases hone
  rename_i m b x' hm hb hx';rw[hx] at hx';cases hx';simp only[ae] at hone;obtain⟨⟨⟨⟨hmop,hlt0⟩,hjust⟩,hbef⟩,_⟩:=hone;obtain⟨b',e,hb',he,hent,_⟩:=hes i m hm;have hanc:∀a,as[i]? =some a→∀j∈a,L.getD j false=true:=by
   intro a ha j hj;rw[hb] at ha;cases ha;simp only[ao] at hjust;have:=hjust j hj;rw[←Array.any_toList,List.any_eq_true] at this;obtain⟨ed,hed,hed2⟩:=this;have hed:=Array.mem_def.2 hed;simp only[ae,Bool.or_eq_true,beq_iff_eq] at hed2;have hon:=hedges ed hed hed2.1;rcases hed2.2 with q|q
   ·rw[←q];exact hon
   ·split at q
    ·rename_i c hc;exact hdown ed.on c hc hon j (by simpa using q)
    ·cases q
  obtain⟨k1,k2,k3,k4⟩:=lD hok hes hlen hm he hSi hanc (fun j a ha hj k hk=>hdown j a ha hj k hk);have hS':(fun j=>(L.setIfInBounds i true).getD j false)=bB (fun j=>L.getD j false) i:=by
   funext j;simp only[bB];by_cases hji:j=i
   ·subst hji;simp[hlt2]
   ·rw[getD_set_ne false (fun q=>hji q.symm)];have:(j==i)=false:=by simp[hji]
    rw[this,Bool.or_false]
  simp only[kG,ae,beq_iff_eq] at hmop;obtain⟨⟨⟨hdst,hN⟩,hg⟩,hact⟩:=hmop;have hed:=kO hent;have hN':∀d,e.dst=some d→d<N:=by
   intro d hd;rw[hed,hdst] at hd;rw[hd] at hN;simpa using hN
  have next:∀E' a' w',Rel F Pr w0 lb N E' (NS nb (bB (fun j=>L.getD j false) i)) (cC (bP (fun j=>L.getD j false) 0 es t0) e.dst e.v) (e.aK++bY (fun j=>L.getD j false) 0 es o0) a' w'→wpAny P .any xs Q fuel (L.setIfInBounds i true) a' w':=by
   intro E' a' w' R';refine ih (L.setIfInBounds i true) (by simpa using hL) ?_ ?_ ?_ (E:=E')
   ·have hsub:((List.range xs.size).filter fun j=> !(L.setIfInBounds i true).getD j false).length<((List.range xs.size).filter fun j=> !L.getD j false).length:=by
     have e1:((List.range xs.size).filter fun j=> !(L.setIfInBounds i true).getD j false)=((List.range xs.size).filter fun j=> !L.getD j false).filter fun j=> !(j==i):=by
      rw[List.filter_filter];congr 1;funext j;have:=congrFun hS' j;rw[this];simp[bB,Bool.and_comm]
     rw[e1];have hmem:i∈(List.range xs.size).filter fun j=> !L.getD j false:=by
      rw[List.mem_filter,List.mem_range];exact⟨hlt,by rw[hSi];rfl⟩
     exact List.length_filter_lt_length_iff_exists.2 ⟨i,hmem,by simp⟩
    omega
   ·intro j c hc hj k hk;have hj':bB (fun j=>L.getD j false) i j=true:=by rw[←hS'];exact hj
    have:bB (fun j=>L.getD j false) i k=true:=by
     simp only[bB,Bool.or_eq_true,beq_iff_eq] at hj' ⊢;rcases hj' with q|q
     ·exact .inl (hdown j c hc q k hk)
     ·subst q;exact .inl (hanc c hc k hk)
    rw[←hS'] at this;exact this
   ·rw[hS'];exact R'.pF k3 k4
  show wpOp P xs Q i (wpAny P .any xs Q fuel (L.setIfInBounds i true)) a w;unfold wpOp;rw[hx];simp only;have hwant:wanted (bP (fun j=>L.getD j false) 0 es t0) m.guard=wanted (bP (fun q=>decide (q<i)) 0 es t0) m.guard:=by
   cases hgm:m.guard with
   |none=>rfl
   |some gb=>
    obtain⟨g,bb⟩:=gb;simp only[wanted];rw[k1 g (by simp[gx,mK,hgm])]
  unfold cq at hent;split at hent
  ·rename_i hw;rw[if_pos (ee R hg (by rw[hwant];exact hw))];rw[aa] at hent;obtain⟨r,hr,rfl⟩:=hent;have hr2:act cf (nb+16*i) (m.dst.getD 0) (bP (fun j=>L.getD j false) 0 es t0) (bY (fun j=>L.getD j false) 0 es o0) m.op=some (r.1,r.2):=by
    rw[pK (t:=bP (fun q=>decide (q<i)) 0 es t0) (fun k hk=>k1 k (by simp[gx,hk]))];refine oy (fun id ob hg=> ?_) hr;rw[k2 id (fb _ _ hg)];exact gK _ _ hg
   refine .inl (nj R (oY hSi) hcf hact hr2 ?_);intro E' val w' R' hv;have z:=next E' _ w' (R'.put (dst:=m.dst) (by simpa using hN') hv)
   rw[hdst] at z;exact z
  ·rename_i hw;rw[if_neg (by rw[ee R hg (by rw[hwant];exact hw)];simp)];cases hent;have R2:=(R.mu (oY hSi).b8).put (dst:=m.dst) (v:= .undef) (val:=undef) (by simpa using hN') (.undef _ (by intro b h;cases h));have z:=next E _ w R2
   rw[hdst] at z;exact z
  ·cases hent
end
end Mx
namespace Mx
open Go
variable {P:Program} {F:Nat→FuncId} {Pr:Nat→Prop} {w0:World} {lb:Lb} {N:Nat} {E:Nat→Option Loc} {n:Nat→Prop} {t:List (Nat×V)} {o:List (Nat×Ob)} {a:Act} {w:World}
def fq(P:Program)(F:Nat→FuncId)(N:Nat)(ops:Array Oper):List cr→List Oper→Bool
 |[],[]=>true
 |m::ms,x::xs=>kG P F N ops m x&&fq P F N ops ms xs
 |_,_=>false
theorem oe(nb i:Nat):Fr (fun k=>k<nb+16*i) (nb+16*i) (fun k=>k<nb+16*(i+1)):=
 ⟨fun k h1 h2 h3=>by omega,fun k h=>by omega,fun k h1 h2=>by omega⟩
theorem gq{cf:au}(hcf:ec P F cf){ops:Array Oper}{Q:Exit→Act→World→Prop}{nb:Nat}:∀{i:Nat} {ms:List cr} {xs:List Oper} {E:Nat→Option Loc} {t:List (Nat×V)} {o:List (Nat×Ob)} {a:Act} {w:World} {t':List (Nat×V)} {o':List (Nat×Ob)},
  Rel F Pr w0 lb N E (fun k=>k<nb+16*i) t o a w→fq P F N ops ms xs=true→steps cf nb i ms t o=some (t',o')→
  (∀E' a' w',Rel F Pr w0 lb N E' (fun k=>k<nb+16*(i+ms.length)) t' o' a' w'→Q .normal a' w')→wpList P ops Q xs a w
 |i,[],[],E,t,o,a,w,t',o',R,_,h,hq=>by
  simp only[steps,af,ah] at h;obtain⟨rfl,rfl⟩:=h;exact hq E a w R
 |i,m::ms,x::xs,E,t,o,a,w,t',o',R,hok,h,hq=>by
  simp only[fq,kG,ae,beq_iff_eq] at hok;obtain⟨⟨⟨⟨hdst,hN⟩,hg⟩,hact⟩,hrest⟩:=hok;have hN':∀d,x.dst=some d→d<N:=by
   intro d hd;rw[hd] at hN;simpa using hN
  simp only[steps] at h;split at h
  ·rename_i t1 o1 hs;have hq':∀E' a' w',Rel F Pr w0 lb N E' (fun k=>k<nb+16*(i+1+ms.length)) t' o' a' w'→Q .normal a' w':=by
    intro E' a' w' R';exact hq E' a' w' (by rw[al,show i+(ms.length+1)=i+1+ms.length from by omega];exact R')
   unfold wpList;unfold step at hs;split at hs
   ·rename_i hw;rw[if_pos (ee R hg hw)];simp only[aa,ah] at hs;obtain⟨r,hr,rfl,rfl⟩:=hs;refine .inl (nj R (oe nb i) hcf hact hr ?_);intro E' val w' R' hv;refine gq hcf (i:=i+1) (R'.put (dst:=m.dst) (by rw[hdst];exact hN') hv) hrest h hq'|>fun z=> ?_
    rw[hdst] at z;exact z
   ·rename_i hw;rw[if_neg (by rw[ee R hg hw];simp)];simp only[af,ah] at hs;obtain⟨rfl,rfl⟩:=hs;have R2:=(R.same rfl rfl rfl rfl (n':=fun k=>k<nb+16*(i+1)) (fun k h=>by omega)).put (dst:=m.dst) (v:= .undef) (val:=undef) (by rw[hdst];exact hN') (.undef _ (by intro b h;cases h));have z:=gq hcf (i:=i+1) R2 hrest h hq';rw[hdst] at z;exact z
   ·cases hs
  ·cases h
 |_,[],_::_,_,_,_,_,_,_,_,_,hok,_,_=>by simp[fq] at hok
 |_,_::_,[],_,_,_,_,_,_,_,_,hok,_,_=>by simp[fq] at hok
def eV(P:Program)(F:Nat→FuncId)(N:Nat):C→Code→Bool
 | .skip,.skip=>true
 | .a7 ops _ _,.region _ xs false=>fq P F N xs ops xs.toList
 | .jZ ops anc _ _,.region _ xs true=>mi P F N xs ops anc
 | .seq a b,.seq c d=>eV P F N a c&&eV P F N b d
 | .cond x a b,.cond y c d=>okO F x y&&eV P F N a c&&eV P F N b d
 | .block id a,.block id' c=>id==id'&&eV P F N a c
 | .loop a,.loop c=>eV P F N a c
 | .exit id,.exit id'=>id==id'
 | .ret,.ret=>true
 | .shut _ a,c=>eV P F N a c
 |_,_=>false
def mO:Out→Exit
 | .normal=> .normal
 | .exit id=> .exit id
 | .ret=> .ret
theorem pb{cf:au}(hcf:ec P F cf)(k:Nat):∀(c:C) (c':Code) (_hs:eV P F N c c'=true) {Q:Exit→Act→World→Prop} {s s':St} {out:Out} {E:Nat→Option Loc} {a:Act} {w:World},
  Rel F Pr w0 lb N E (fun k=>k<s.n) s.t s.o a w→bp cf k c s=some (out,s')→
  (∀E' a' w',Rel F Pr w0 lb N E' (fun k=>k<s'.n) s'.t s'.o a' w'→Q (mO out) a' w')→c'.wp P Q a w:=by
 intro c
 induction c with
 |skip=>
  intro c' hs Q s s' out E a w R h hq;cases c'<;>first|(simp[eV] at hs;done)|skip
  simp only[bp,af,ah] at h;obtain⟨rfl,rfl⟩:=h;exact wp_skip (hq E a w R)
 |a7 ops kt ko=>
  intro c' hs Q s s' out E a w R h hq;cases c' with
  |region id xs draw=>
   cases draw with
   |true=>simp[eV] at hs
   |false=>
    simp only[eV] at hs;simp only[bp,aa,ah] at h;obtain⟨r,hr,rfl,rfl⟩:=h;refine wp_region_list (gq (i:=0) hcf R hs hr ?_);intro E' a' w' R';exact hq E' a' w' (by simpa using R'.keep kt ko)
  |_=>simp[eV] at hs
 |jZ ops anc kt ko=>
  intro c' hs Q s s' out E a w R h hq;cases c' with
  |region id xs draw=>
   cases draw with
   |false=>simp[eV] at hs
   |true=>
    simp only[eV,mi,ae,beq_iff_eq] at hs;obtain⟨⟨hm,hsz⟩,hok⟩:=hs;simp only[bp,aa,ah] at h;obtain⟨r,hr,rfl,rfl⟩:=h;obtain⟨es,hlen,rfl,hes⟩:=fA hr;have z:∀(es:List cE) (i:Nat) (t:List (Nat×V)),bP (fun j=>(Array.replicate xs.size false).getD j false) i es t=t:=by
     intro es
     induction es with
     |nil=>intro i t;rfl
     |cons e es ih=>intro i t;simp only[bP];rw[if_neg (by simp[Array.getElem?_replicate];split<;>simp)];exact ih _ _
    have z2:∀(es:List cE) (i:Nat) (t:List (Nat×Ob)),bY (fun j=>(Array.replicate xs.size false).getD j false) i es t=t:=by
     intro es
     induction es with
     |nil=>intro i t;rfl
     |cons e es ih=>intro i t;simp only[bY];rw[if_neg (by simp[Array.getElem?_replicate];split<;>simp)];exact ih _ _
    refine wp_region_any hm (m7 (E:=E) hcf hsz hok (fun j m hj=> ?_) hlen (fun E' a' w' R'=>hq E' a' w' (R'.keep kt ko)) xs.size _ (by simp) (Nat.le_trans (List.length_filter_le _ _) (by simp)) ?_ ?_)
    ·obtain⟨a',e,q1,q2,q3,_,q5⟩:=hes j m hj;refine⟨a',e,q1,q2, ?_,fun j' e' h1 h2=> ?_⟩
     ·simpa only[Nat.zero_add] using q3
     ·have:=q5 j' e' h1 h2;simpa only[Nat.zero_add] using this
    ·intro i b _ hi;exfalso;revert hi;simp[Array.getElem?_replicate];split<;>simp
    ·rw[z,z2];exact Rel.same (w':={w with drawn:=w.drawn+1}) (n':=NS s.n fun j=>(Array.replicate xs.size false).getD j false) R rfl rfl rfl rfl (fun k hk=>Or.inl hk)
  |_=>simp[eV] at hs
 |seq x y ihx ihy=>
  intro c' hs Q s s' out E a w R h hq;cases c'<;>first|(simp[eV] at hs;done)|skip
  simp only[eV,ae] at hs;simp only[bp] at h;split at h
  ·rename_i s1 h1;exact wp_seq (ihx _ hs.1 R h1 fun E' a' w' R'=>ihy _ hs.2 R' h hq)
  ·rename_i hne;refine wp_seq (ihx _ hs.1 R h fun E' a' w' R'=> ?_);cases out with
   |normal=>exact(hne _ h).elim
   |exit id=>exact hq E' a' w' R'
   |ret=>exact hq E' a' w' R'
 |cond x y z ihy ihz=>
  intro c' hs Q s s' out E a w R h hq;cases c'<;>first|(simp[eV] at hs;done)|skip
  simp only[eV,ae] at hs;simp only[bp] at h;split at h
  ·rename_i hb;exact wp_cond (cM R hs.1.1 hb) (ihy _ hs.1.2 R h hq)
  ·rename_i hb;exact wp_cond (cM R hs.1.1 hb) (ihz _ hs.2 R h hq)
  ·cases h
 |block id x ih=>
  intro c' hs Q s s' out E a w R h hq;cases c'<;>first|(simp[eV] at hs;done)|skip
  simp only[eV,ae,beq_iff_eq] at hs;obtain⟨rfl,hs⟩:=hs;simp only[bp] at h;split at h
  ·rename_i id' s1 h1;simp only[af] at h;refine wp_block (ih _ hs R h1 fun E' a' w' R'=> ?_);simp only[mO,Exit.inBlock];split at h
   ·rename_i e;simp only[ah] at h;obtain⟨rfl,rfl⟩:=h;rw[if_pos e];exact hq E' a' w' R'
   ·rename_i e;simp only[ah] at h;obtain⟨rfl,rfl⟩:=h;rw[if_neg e];exact hq E' a' w' R'
  ·rename_i hne;refine wp_block (ih _ hs R h fun E' a' w' R'=> ?_);cases out with
   |normal=>exact hq E' a' w' R'
   |exit id'=>exact(hne _ _ h).elim
   |ret=>exact hq E' a' w' R'
 |loop x ih=>
  intro c' hs Q s s' out E a w R h hq;cases c'<;>first|(simp[eV] at hs;done)|skip
  rename_i body;simp only[eV] at hs;simp only[bp] at h;refine wp_loop_rounds k ?_;have key:∀(m:Nat) {s:St} {E:Nat→Option Loc} {a:Act} {w:World},Rel F Pr w0 lb N E (fun k=>k<s.n) s.t s.o a w→bq (bp cf k x) m s=some (out,s')→Code.rounds P body Q m a w:=by
   intro m
   induction m with
   |zero=>intro s E a w R h;simp[bq] at h
   |succ m ihm=>
    intro s E a w R h;rw[rounds_succ];simp only[bq] at h;split at h
    ·rename_i s1 h1;exact ih _ hs R h1 fun E' a' w' R'=>ihm R' h
    ·rename_i hne;refine ih _ hs R h fun E' a' w' R'=> ?_
     cases out with
     |normal=>exact(hne _ h).elim
     |exit id=>exact hq E' a' w' R'
     |ret=>exact hq E' a' w' R'
  exact key k R h
 |exit id=>
  intro c' hs Q s s' out E a w R h hq;cases c'<;>first|(simp[eV] at hs;done)|skip
  simp only[eV,beq_iff_eq] at hs;subst hs;simp only[bp,af,ah] at h;obtain⟨rfl,rfl⟩:=h;exact wp_exit (hq E a w R)
 |ret=>
  intro c' hs Q s s' out E a w R h hq;cases c'<;>first|(simp[eV] at hs;done)|skip
  simp only[bp,af,ah] at h;obtain⟨rfl,rfl⟩:=h;exact wp_ret (hq E a w R)
 |shut ids x ih=>
  intro c' hs Q s s' out E a w R h hq;have hs':eV P F N x c'=true:=by rw[eV] at hs;exact hs
  simp only[bp] at h;exact ih c' hs' (R.shut ids) h hq
def kF(P:Program):List R→List ResultVar→Bool
 |[],[]=>true
 | .tmp x::rs,.tmp y::qs=>x==y&&kF P rs qs
 | .cell x agg k::rs,.cell y ty::qs=>x==y&&(cn P ty==some agg)&&(bw P ty==some k)&&kF P rs qs
 |_,_=>false
theorem fS{ty:TypeId}{ad:Addr}{cs:List Value}(ha:cn P ty=some true)(hs:bw P ty=some cs.length)
  (h:∀(q:Nat) (v:Value),cs[q]? =some v→w.cell? (ad.add q)=some v):(loadVar ty ad).run P w= .ok (.agg cs.toArray) w:=by
 simp only[loadVar,Sem.run_bind,Result.andThen_ok,bT ha,if_true,aN hs];rw[run_loadCells_list w ad cs h];simp
theorem fR{ty:TypeId}{ad:Addr}{v:Value}(ha:cn P ty=some false)(h:w.cell? ad=some v):(loadVar ty ad).run P w= .ok v w:=by
 simp[loadVar,bT ha,h]
def cL(tmps:Array Value):ResultVar→Sem Value
 | .tmp t=>pure (tmps.getD t undef)
 | .cell a t=>do loadVar t (←asAddr (tmps.getD a undef))
theorem j5(R:Rel F Pr w0 lb N E n t o a w){r:Mx.R}{q:ResultVar}(hok:kF P [r] [q]=true){v:V}(h:mf t o r=some v):∃x,(cL a.tmps q).run P w= .ok x w∧bm (cx F Pr E o w) v x:=by
 cases r with
 |tmp d=>
  cases q with
  |tmp d'=>
   simp only[kF,Bool.and_true,beq_iff_eq] at hok;subst hok;exact⟨_,rfl,R.tmps d v h⟩
  |cell=>simp[kF] at hok
 |cell d agg k=>
  cases q with
  |tmp=>simp[kF] at hok
  |cell d' ty=>
   simp only[kF,Bool.and_true,ae,beq_iff_eq] at hok;obtain⟨⟨rfl,ha⟩,hs⟩:=hok;simp only[mf] at h;split at h
   ·rename_i x hx;split at h
    ·rename_i r j hp;obtain⟨ad,hv,hcells⟩:=hX R (R.tmps d _ hx).gR hp;have hrun:∀val,(loadVar ty ad).run P w= .ok val w→(cL a.tmps (.cell d ty)).run P w= .ok val w:=by
      intro val hl;simp[cL,hv,asAddr,hl]
     split at h
     ·rename_i hagg;subst hagg;split at h
      ·rename_i hk;cases h;obtain⟨cs,hl,hrep,hc⟩:=hR (X:=cx F Pr E o w) hcells hk;exact⟨_,hrun _ (fS ha (by rw[hl];exact hs) hc),.po hrep⟩
      ·cases h
     ·rename_i hagg;have hagg':agg=false:=by cases agg<;>simp_all
      subst hagg';rw[aa] at h;obtain⟨c,hc,rfl⟩:=h;obtain⟨u,hu,hr⟩:=hcells 0 c (by simpa using hc);rw[add_zero] at hu;exact⟨u,hrun _ (fR ha hu),.c _ _ hr⟩
    ·cases h
   ·cases h
theorem fO(R:Rel F Pr w0 lb N E n t o a w):∀{rs:List Mx.R} {qs:List ResultVar} {vs:List V},kF P rs qs=true→aS (mf t o) rs=some vs→
  ∃xs:List Value,(qs.mapM (cL a.tmps)).run P w= .ok xs w∧vs.length=xs.length∧∀(i:Nat) (v:V) (x:Value),vs[i]? =some v→xs[i]? =some x→bm (cx F Pr E o w) v x
 |[],[],vs,_,h=>by simp[aS] at h;subst h;exact⟨[],rfl,rfl,fun i v x h=>by simp at h⟩
 |r::rs,q::qs,vs,hok,h=>by
  simp only[aS] at h;split at h
  ·rename_i v vs' h1 h2;cases h;have hok2:kF P [r] [q]=true∧kF P rs qs=true:=by
    cases r<;>cases q<;>simp_all[kF]
   obtain⟨x,hx,hr⟩:=j5 R hok2.1 h1;obtain⟨xs,hxs,hl,hrs⟩:=fO R hok2.2 h2;refine⟨x::xs,by simp[List.mapM_cons,hx,hxs],by simp[hl],fun i u z hu hz=> ?_⟩;cases i with
   |zero=>simp at hu hz;subst hu hz;exact hr
   |succ i=>exact hrs i u z (by simpa using hu) (by simpa using hz)
  ·cases h
 |[],_::_,_,hok,_=>by simp[kF] at hok
 |r::_,[],_,hok,_=>by cases r<;>simp[kF] at hok
theorem ji{fn:Func}{tmps:Array Value}{xs:List Value}(h:(fn.results.toList.mapM (cL tmps)).run P w= .ok xs w):
  (results fn tmps).run P w= .ok (if h:xs.length=1 then xs[0] else .tuple xs.toArray) w:=by
 have hr:results fn tmps=(do
  let vs ←fn.results.mapM (cL tmps)
  pure (if h:vs.size=1 then vs[0] else .tuple vs)):=rfl
 rw[hr,Array.mapM_eq_mapM_toList];simp[h]
theorem dL{o:List (Nat×Ob)}:∀{lent after:List (Nat×Ob)},eh o lent=some after→∀p ob,get lent p=some ob→∃b b',get o p=some b∧b.ar=p∧b.w=true∧get after p=some b'∧
  (b'=b∧b.bx=false∨∃rows,aS (fun r=>aS (cl o) r) b.rows=some rows∧b'={b with rows:=rows})
 |[],_,_,p,ob,hg=>by simp[get] at hg
 |(p',ob')::lent,after,h,p,ob,hg=>by
  simp only[eh] at h;split at h
  ·rename_i b l' hb hl;split at h
   ·rename_i hc;by_cases e:p=p'
    ·subst e;split at h
     ·rw[aa] at h;obtain⟨rows,hm,rfl⟩:=h;exact⟨b,_,hb,hc.1,hc.2,eC _ _ _,.inr ⟨rows,hm,rfl⟩⟩
     ·rename_i hbx;cases h;exact⟨b,b,hb,hc.1,hc.2,eC _ _ _,.inl ⟨rfl,by simpa using hbx⟩⟩
    ·rw[ea e] at hg;obtain⟨b1,b2,g1,g2,g3,g4,g5⟩:=dL hl p ob hg;split at h
     ·rw[aa] at h;obtain⟨rows,hm,rfl⟩:=h;exact⟨b1,b2,g1,g2,g3,by rw[ea e];exact g4,g5⟩
     ·cases h;exact⟨b1,b2,g1,g2,g3,by rw[ea e];exact g4,g5⟩
   ·cases h
  ·cases h
def cZ(E:Nat→Option Loc)(o:List (Nat×Ob))(np:Nat)(raw:List T)(q:Nat):Option Loc:=
 match raw[q]? with
 |some (.row id _ _ _)=>if cu np id then none else(match get o id with|some b=>if b.w then E b.ar else none|none=>none)
 |some (.ptr id _ _ _)=>if cu np id then none else(match get o id with|some b=>if b.w then E b.ar else none|none=>none)
 |some (.cA _)=>some .nil
 |_=>none
def kE(np:Nat)(o:List (Nat×Ob)):T→List Nat
 | .row id _ _ _=>if cu np id then [] else(match get o id with|some b=>if b.w then [id] else []|none=>[])
 | .ptr id _ _ _=>if cu np id then [] else(match get o id with|some b=>if b.w then [id] else []|none=>[])
 |_=>[]
theorem ef{np q b cap sz:Nat}{raw:List T}(h:cZ E o np raw q=some (.bQ b cap sz)):∃x id ob,raw[q]? =some x∧kE np o x=[id]∧cu np id=false∧get o id=some ob∧ob.w=true∧E ob.ar=some (.bQ b cap sz):=by
 unfold cZ at h;split at h
 ·rename_i id ar off len hq;split at h
  ·cases h
  ·rename_i hnp;split at h
   ·rename_i ob hg;split at h
    ·rename_i hw;exact⟨_,id,ob,hq,by simp[kE,hnp,hg,hw],by simpa using hnp,hg,hw,h⟩
    ·cases h
   ·cases h
 ·rename_i id ar off len hq;split at h
  ·cases h
  ·rename_i hnp;split at h
   ·rename_i ob hg;split at h
    ·rename_i hw;exact⟨_,id,ob,hq,by simp[kE,hnp,hg,hw],by simpa using hnp,hg,hw,h⟩
    ·cases h
   ·cases h
 ·cases h
 ·cases h
theorem fI{α:Type}{g:α→List Nat}:∀{l:List α},(l.flatMap g).Nodup→∀{i j:Nat} {x y:α} {k:Nat},l[i]? =some x→l[j]? =some y→k∈g x→k∈g y→i=j
 |[],_,i,_,_,_,_,h,_,_,_=>by simp at h
 |z::l,hn,i,j,x,y,k,hi,hj,hx,hy=>by
  simp only[bn,List.nodup_append] at hn;obtain⟨h1,h2,h3⟩:=hn;cases i with
  |zero=>
   cases j with
   |zero=>rfl
   |succ j=>
    simp at hi hj;subst hi;exact(h3 k hx k (List.mem_flatMap.2 ⟨y,bu hj,hy⟩) rfl).elim
  |succ i=>
   cases j with
   |zero=>
    simp at hi hj;subst hj;exact(h3 k hy k (List.mem_flatMap.2 ⟨x,bu hi,hx⟩) rfl).elim
   |succ j=>rw[fI h2 (i:=i) (j:=j) (by simpa using hi) (by simpa using hj) hx hy]
section fin
variable {X:Cx} {np:Nat} {raw:List T} {lent:List (Nat×Ob)} (R:Rel F Pr w0 lb N E n t o a w) (K:b9 (cx F Pr E o w) X) (hw:X.w=w)
 (hl:∀p ob,get lent p=some ob→∃b,get o p=some b∧b.ar=p)
include R K hw hl
theorem kM{q:Nat}{x y:T}{v:Value}(hq:raw[q]? =some x)(h:fc np o x=some y)(hr:bc (cx F Pr E o w) x v):eP X (cZ E o np raw) lent q y v:=by
 cases x with
 |int k m=>simp[fc] at h;subst h;cases hr;exact .int _ _
 |bool b=>simp[fc] at h;subst h;cases hr;exact .bool _
 |str s=>simp[fc] at h;subst h;cases hr;exact .str _
 |cA sz=>
  simp[fc] at h;subst h;cases hr;exact .own sz [] .nil (by simp[cZ,hq]) ⟨rfl,rfl⟩
 |sl own sz rows=>
  simp[fc] at h;subst h;cases hr with
  |sl _ _ _ A c vs h1 h2 h3 h4 h5=>exact .sh _ _ _ ((bc.sl (X:=cx F Pr E o w) false _ _ A c vs h1 h2 h3 h4 h5).mono K)
 |row id ar off len=>
  simp only[fc] at h;split at h
  ·rename_i b hg;split at h
   ·rename_i hc;obtain⟨hver,hbx,hfit⟩:=hc;split at h
    ·rename_i hlt;cases h;refine .row id ar off len v fun ob hob=> ?_
     obtain⟨b',h1,h2⟩:=hl id ob hob;rw[hg] at h1;cases h1;have:ar=id:=by rw[←hver,h2]
     subst this;exact hr.mono K
    ·rename_i hge;split at h
     ·rename_i hc2;cases h;obtain⟨_,l,hloc,hrl⟩:=R.cS id b hg;have ho:cZ E o np raw q=some l:=by
       simp only[cZ,hq,if_neg hge,hg,hc2.1,if_true];exact hloc
      have hoff:off=0:=by simpa using hc2.2
      subst hoff;have hlen:(b.rows.take len).length=len:=by simp;omega
      cases hr with
      |row _ _ _ _ cap sz bk hE' hl' ho'=>
       rw[hver] at hloc;rw[show (cx F Pr E o w).E ar=E ar from rfl,hloc] at hE';cases hE';obtain⟨e,hl0,hwid,hcl,cs,e1,fr,m1,m2,m3,m4⟩:=hrl;subst e;have:=eP.own (X:=X) (lent:=lent) (q:=q) b.sz (b.rows.take len) (.bQ bk cap b.sz) ho
        ⟨rfl,by simp only[hlen];omega,gl hwid,fun _ i j r t hi ht=>hcl hbx i j r t (by rw[aC] at hi;split at hi;exact hi;cases hi) ht,cs,e1,fr,by rw[hw];exact m1,m2,m3,fun i j r t hi ht=>by
         rw[aC] at hi;split at hi
         ·obtain⟨v,q1,q2⟩:=m4 i j r t hi ht;exact⟨v,q1,q2.mono K⟩
         ·cases hi⟩
       simp only[hlen,mz] at this;simpa [add_zero] using this
      |cI _ _ hE'=>
       rw[hver] at hloc;rw[show (cx F Pr E o w).E ar=E ar from rfl,hloc] at hE';cases hE';have:=eP.own (X:=X) (lent:=lent) (q:=q) b.sz (b.rows.take 0) .nil ho ⟨by simp,rfl⟩;simpa [mz] using this
     ·split at h
      ·cases h
      ·rename_i hnw;cases h;exact .sh _ _ _ ((kD R hg hver hfit (by simpa using hnw) hbx hr).mono K)
   ·cases h
  ·cases h
 |ptr id ar i j=>
  simp only[fc] at h;split at h
  ·rename_i b hg;split at h
   ·rename_i hc;obtain⟨hver,hbw,hbx,rfl,rfl,hlt⟩:=hc;split at h
    ·rename_i r hrows;rw[aa] at h;obtain⟨r',hm,rfl⟩:=h;obtain⟨_,l,hloc,hrl⟩:=R.cS id b hg;have ho:cZ E o np raw q=some l:=by
      simp only[cZ,hq,hlt,aD,if_false,hg,hbw,if_true];exact hloc
     cases hr with
     |ptr _ _ _ _ bk cap sz hE'=>
      rw[hver] at hloc;rw[show (cx F Pr E o w).E ar=E ar from rfl,hloc] at hE';cases hE';obtain⟨e,hl0,hwid,hcl,cs,e1,fr,m1,m2,m3,m4⟩:=hrl;subst e;have hr0:b.rows[0]? =some r:=by rw[hrows];rfl
      have hlen:r'.length=b.sz:=by rw[bj hm];exact hwid 0 r hr0
      have key:∀(j:Nat) (t:T),r'[j]? =some t→∃v,cs[0*b.sz+j]? =some v∧bc (cx F Pr E o w) t v∧aH t:=by
       intro j t ht;obtain⟨t0,k3,k4⟩:=bK hm ht;obtain⟨v,q1,q2⟩:=m4 0 j r t0 hr0 k3;exact⟨v,q1,gQ R k4 q2,en R k4 q2⟩
      have:=eP.box (X:=X) (own:=cZ E o np raw) (lent:=lent) (q:=q) r' bk cap (by rw[hlen];exact ho)
       ⟨rfl,by rw[hrows] at hl0;simpa using hl0,fun i r0 hi=>by cases i with|zero=>simp at hi;subst hi;rfl|succ i=>simp at hi,
        fun hb=>by simp at hb,cs,e1,fr,by rw[hw];exact m1,by simp only[hlen];exact m2,m3,fun i j r0 t hi ht=>by
         cases i with
         |zero=>simp at hi;subst hi;obtain⟨v,q1,q2,_⟩:=key j t ht;exact⟨v,by simpa using q1,q2.mono K⟩
         |succ i=>simp at hi⟩
       (fun j t ht=>(key j t ht).choose_spec.2.2)
      simpa [add_zero] using this
    ·cases h
   ·cases h
  ·cases h
 |vp=>simp[fc] at h
 |fn=>simp[fc] at h
theorem kN:∀{q:Nat} {xs ys:List T} {vs:List Value},(∀(j:Nat) (x:T),xs[j]? =some x→raw[q+j]? =some x)→aS (fc np o) xs=some ys→aP (cx F Pr E o w) xs vs→lX X (cZ E o np raw) lent q ys vs
 |q,[],ys,vs,hq,h,hr=>by
  simp[aS] at h;subst h;have:=hr.1;cases vs with
  |nil=>trivial
  |cons=>simp at this
 |q,x::xs,ys,vs,hq,h,hr=>by
  simp only[aS] at h;split at h
  ·rename_i y ys' h1 h2;cases h;obtain⟨v,vs',rfl,r1,r2⟩:=hr.gn;exact⟨kM R K hw hl (by simpa using hq 0 x (by simp)) h1 r1,kN (fun j z hz=>by rw[show q+1+j=q+(j+1) from by omega];exact hq (j+1) z (by simpa using hz)) h2 r2⟩
  ·cases h
theorem oh{q:Nat}{x y:V}{v:Value}(hq:∀(j:Nat) (c:T),(x.cells.getD [])[j]? =some c→raw[q+j]? =some c)(h:V.fin np o x=some y)(hr:bm (cx F Pr E o w) x v):
  iX X (cZ E o np raw) lent q y v∧y.width=(x.cells.getD []).length:=by
 cases hr with
 |c x v hr=>
  simp only[V.fin,aa] at h;obtain⟨y,hy,rfl⟩:=h;exact⟨kM R K hw hl (by simpa using hq 0 x (by simp[V.cells])) hy hr,rfl⟩
 |a xs cs hn hr=>
  simp only[V.fin,aa] at h;obtain⟨ys,hy,rfl⟩:=h;refine⟨kN R K hw hl (xs:=xs) (by simpa [V.cells] using hq) hy ⟨by simpa using hn,fun i t v ht hv=>hr i t v ht (by simpa using hv)⟩, ?_⟩;simp[V.width,V.cells,bj hy]
 |fj=>simp[V.fin] at h
 |undef=>simp[V.fin] at h
theorem jy:∀{q:Nat} {xs ys:List V} {vs:List Value},(∀(j:Nat) (c:T),(xs.flatMap fun x=>x.cells.getD [])[j]? =some c→raw[q+j]? =some c)→aS (V.fin np o) xs=some ys→
  xs.length=vs.length→(∀(i:Nat) (x:V) (v:Value),xs[i]? =some x→vs[i]? =some v→bm (cx F Pr E o w) x v)→iz X (cZ E o np raw) lent q ys vs
 |q,[],ys,vs,hq,h,hn,hr=>by
  simp[aS] at h;subst h;cases vs with
  |nil=>trivial
  |cons=>simp at hn
 |q,x::xs,ys,vs,hq,h,hn,hr=>by
  simp only[aS] at h;split at h
  ·rename_i y ys' h1 h2;cases h;cases vs with
   |nil=>simp at hn
   |cons v vs=>
    obtain⟨k1,k2⟩:=oh R K hw hl (q:=q) (fun j c hc=>hq j c (by rw[bn,List.getElem?_append_left (List.getElem?_eq_some_iff.1 hc).1];exact hc)) h1 (hr 0 x v (by simp) (by simp));refine⟨k1,jy (fun j c hc=> ?_) h2 (by simpa using hn) (fun i x v hx hv=>hr (i+1) x v (by simpa using hx) (by simpa using hv))⟩;rw[k2,Nat.add_assoc];exact hq _ c (by rw[bn,List.getElem?_append_right (by omega),Nat.add_sub_cancel_left];exact hc)
  ·cases h
end fin
end Mx
namespace Mx
open Go
variable {P:Program} {F:Nat→FuncId} {Pr:Nat→Prop} {w0:World} {lb:Lb} {N:Nat} {E:Nat→Option Loc} {n:Nat→Prop} {t:List (Nat×V)} {o:List (Nat×Ob)} {a:Act} {w:World}
def ch(P:Program)(F:Nat→FuncId)(f:Nat)(b:Fn):Bool:=
 match P.funcs[F f]? with
 |some fn=>(fn.name != "runtime.NumGoroutine")&&decide (b.np≤fn.ntmps)&&kF P b.res fn.results.toList&&(match fn.body with|some c=>eV P F fn.ntmps b.body c|none=>false)
 |none=>false
theorem eB:∀{m:Nat} {as:List V} {k d:Nat} {v:V},get ((List.range' k m).zip as) d=some v→k≤d∧as[d-k]? =some v
 |0,as,k,d,v,h=>by simp[get] at h
 |m+1,[],k,d,v,h=>by simp[get] at h
 |m+1,x::as,k,d,v,h=>by
  rw[List.range'_succ,List.zip_cons_cons] at h;simp only[get] at h;split at h
  ·rename_i e;cases h;subst e;simp
  ·obtain⟨h1,h2⟩:=eB h;refine⟨by omega, ?_⟩;rw[show d-k=(d-(k+1))+1 from by omega];simpa using h2
def pD(lent:List (Nat×Ob))(E0:Nat→Option Loc):Lb:=⟨gV lent E0,E0⟩
theorem lC{E0:Nat→Option Loc}{as:List V}{lent:List (Nat×Ob)}{vals:Array Value}(En:Entry F Pr E0 as lent vals w){m:Nat}(hm:as.length≤m):
  Rel F Pr w (pD lent E0) m E0 (fun k=>k<2000000) ((List.range as.length).zip as) lent {tmps:=vals++Array.replicate (m-vals.size) undef,defers:=[]} w:=by
 have hsz:vals.size=as.length:=En.n.symm;refine⟨rfl,rfl,rfl,Nat.le_refl _,fun _ _ _=>rfl,rfl,by simp;omega, ?_, ?_, ?_,En.de,En.fresh,En.pr,fun _ _ h=>h⟩
 ·intro d v hv;rw[List.range_eq_range'] at hv;obtain⟨_,h2⟩:=eB hv;simp only[Nat.sub_zero] at h2;have hd:d<vals.size:=by rw[hsz];exact(List.getElem?_eq_some_iff.1 h2).1
  refine En.args d v _ h2 ?_;rw[ax,Array.getElem?_append_left hd,Array.getElem?_eq_getElem hd,bF]
 ·intro id ob hg;obtain⟨h1,h2,h3,l,h4,h5⟩:=En.cS id ob hg;exact⟨by rw[h1];exact h2.2,l,by rw[h1];exact h4,h5⟩
 ·intro id ob b cap sz hg hE;exact⟨En.place id ob b cap sz hg hE,.inr ⟨id,ob,cap,sz,hg,hE⟩⟩
theorem mN{E0:Nat→Option Loc}{as:List V}{lent:List (Nat×Ob)}{vals:Array Value}(En:Entry F Pr E0 as lent vals w0){np:Nat}(hnp:as.length=np)(R:Rel F Pr w0 (pD lent E0) N E n t o a w)
  {rs vs:List V} {after:List (Nat×Ob)} {xs:List Value} (hlf:eh o lent=some after) (hnd:(rs.flatMap (iI np o)).Nodup) (hfin:aS (V.fin np o) rs=some vs)
  (hlen:rs.length=xs.length) (hrep:∀(i:Nat) (v:V) (x:Value),rs[i]? =some v→xs[i]? =some x→bm (cx F Pr E o w) v x):
  oW F Pr E0 lent w0 E (cZ E o np (rs.flatMap fun x=>x.cells.getD [])) (nO vs) after (if h:xs.length=1 then xs[0] else .tuple xs.toArray) w:=by
 have hl:∀p ob,get lent p=some ob→∃b,get o p=some b∧b.ar=p:=by
  intro p ob hg;obtain⟨b,_,h1,h2,_⟩:=dL hlf p ob hg;exact⟨b,h1,h2⟩
 have hLB:∀bk,gV lent E0 bk→∃p b cap sz,get o p=some b∧b.w=true∧cu np p=true∧E b.ar=some (.bQ bk cap sz):=by
  rintro bk ⟨p,ob,cap,sz,h1,h2⟩;obtain⟨b,_,g1,g2,g3,_⟩:=dL hlf p ob h1;obtain⟨e1,e2,_⟩:=En.cS p ob h1;exact⟨p,b,cap,sz,g1,g3,by rw[←hnp];exact e2.1,by rw[g2,←e1];exact R.ext _ _ h2⟩
 have K:b9 (cx F Pr E o w) (rx F Pr E0 lent E (cZ E o np (rs.flatMap fun x=>x.cells.getD [])) w):=by
  refine⟨rfl,fun _ _ h=>h,fun ad v hu hc=>⟨hc, ?_⟩⟩;rintro (h|h|⟨q,cap,sz,h⟩)
  ·obtain⟨p,b,cap,sz,h1,h2,_,h3⟩:=hLB _ h;exact hu (.inl ⟨p,b,cap,sz,h1,h2,h3⟩)
  ·exact hu (.inr h)
  ·obtain⟨x,id,ob,_,_,_,h1,h2,h3⟩:=ef h;exact hu (.inl ⟨id,ob,cap,sz,h1,h2,h3⟩)
 have hflat:rs.flatMap (iI np o)=(rs.flatMap fun x=>x.cells.getD []).flatMap (kE np o):=by
  rw[List.flatMap_assoc];congr 1
 refine⟨R.os,R.tape,R.output,R.size,R.frame,fun ar l h=>R.ext ar l h, ?_, ?_, ?_, ?_⟩
 ·intro q b cap sz h;obtain⟨x,id,ob,_,_,hge,h1,h2,h3⟩:=ef h;obtain⟨p1,p2⟩:=R.place id ob b cap sz h1 h3;refine⟨.inl ?_,p1⟩;rcases p2 with p2|p2
  ·exact p2
  ·obtain⟨p,b',cap',sz',g1,g2,g3,g4⟩:=hLB _ p2;have:=R.de id p ob b' b cap sz cap' sz' h1 g1 h3 g4;rw[this,g3] at hge;cases hge
 ·intro q q' b cap sz cap' sz' h h';obtain⟨x,id,ob,e1,e2,_,h1,h2,h3⟩:=ef h;obtain⟨x',id',ob',e1',e2',_,h1',h2',h3'⟩:=ef h';have:=R.de id id' ob ob' b cap sz cap' sz' h1 h1' h3 h3';subst this;rw[hflat] at hnd;exact fI hnd e1 e1' (k:=id) (by rw[e2];simp) (by rw[e2'];simp)
 ·have hvs:=jy R K rfl hl (raw:=rs.flatMap fun x=>x.cells.getD []) (q:=0) (fun j c hc=>by simpa using hc) hfin hlen hrep;have hvl:vs.length=xs.length:=by rw[bj hfin,hlen]
  cases vs with
  |nil=>
   cases xs with
   |nil=>exact hvs
   |cons=>simp at hvl
  |cons v vs=>
   cases vs with
   |nil=>
    cases xs with
    |nil=>simp at hvl
    |cons x xs=>
     cases xs with
     |cons=>simp at hvl
     |nil=>
      simp only[nO,List.length_singleton,dite_true,List.getElem_cons_zero];have h1:=hvs.1;cases v with
      |c=>exact h1
      |a=>exact h1
      |fj=>simp[iX] at h1
      |undef=>simp[iX] at h1
   |cons v' vs=>
    cases xs with
    |nil=>simp at hvl
    |cons x xs=>
     cases xs with
     |nil=>simp at hvl
     |cons x' xs=>
      have:¬(x::x'::xs).length=1:=by simp
      rw[dif_neg this];exact hvs
 ·intro p ob ob' l hg ha hE;obtain⟨b,b',g1,g2,g3,g4,g5⟩:=dL hlf p ob hg;rw[ha] at g4;cases g4;obtain⟨e1,e2,e3,l',e4,e5⟩:=En.cS p ob hg;rw[hE] at e4;cases e4;obtain⟨_,l2,hl2,hrl⟩:=R.cS p b g1;rw[g2,R.ext p l hE] at hl2;cases hl2;cases l with
  |nil=>
   have hb:b.rows=[]:=hrl.1;rcases g5 with⟨rfl,hbx⟩|⟨rows,hm,rfl⟩
   ·exact⟨⟨hb,e5.2⟩,fun i j r t hi=>by rw[hb] at hi;simp at hi⟩
   ·rw[hb] at hm;simp[aS] at hm;subst hm;exact⟨⟨rfl,e5.2⟩,fun i j r t hi=>by simp at hi⟩
  |bQ bk cap sz=>
   obtain⟨q1,q2⟩:=hrl;have q3:sz=ob.sz:=e5.1;rcases g5 with⟨rfl,hbx⟩|⟨rows,hm,rfl⟩
   ·exact⟨⟨q3,q2.move rfl rfl (by simp only;omega) (fun _=>q2.cl hbx) fun i j r t v _ _ hv=>hv.mono K⟩,q2.cl hbx⟩
   ·obtain⟨hlen',hwid,hcl,cs,e,fr,m1,m2,m3,m4⟩:=q2;have key:∀(i j:Nat) (r:List T) (t:T),rows[i]? =some r→r[j]? =some t→∃v,cs[i*b.sz+j]? =some v∧bc (cx F Pr E o w) t v∧aH t:=by
     intro i j r t hi ht;obtain⟨r0,k1,k2⟩:=bK hm hi;obtain⟨t0,k3,k4⟩:=bK k2 ht;obtain⟨v,m1,m2⟩:=m4 i j r0 t0 k1 k3;exact⟨v,m1,gQ R k4 m2,en R k4 m2⟩
    have hclo:∀(i j:Nat) (r:List T) (t:T),rows[i]? =some r→r[j]? =some t→aH t:=fun i j r t hi ht=>(key i j r t hi ht).choose_spec.2.2
    have hbs:ob.sz=b.sz:=by omega
    refine⟨⟨q3,by simp only[bj hm];exact hlen', ?_,fun _=>hclo,cs,e,fr,m1,by simp only;rw[hbs];exact m2,m3, ?_⟩,hclo⟩
    ·intro i r hi;obtain⟨r0,k1,k2⟩:=bK hm hi;simp only;rw[bj k2,hbs];exact hwid i r0 k1
    ·simp only;rw[hbs];intro i j r t hi ht;obtain⟨v,m1,m2,_⟩:=key i j r t hi ht;exact⟨v,m1,m2.mono K⟩
theorem pc{cf:au}(hcf:ec P F cf){k f:Nat}{b:Fn}(hok:ch P F f b=true){as:List V}{lent:List (Nat×Ob)}{res:V}{after:List (Nat×Ob)}(h:eR cf k b as lent=some (res,after)):
  iK P F f=true∧∀Pr E0 vals w,Entry F Pr E0 as lent vals w→Calls P (F f) vals w fun e w'=>∃val E' own,e= .returned val∧oW F Pr E0 lent w E' own res after val w':=by
 unfold ch at hok;split at hok
 ·rename_i fn hfn;simp only[ae,decide_eq_true_eq] at hok;obtain⟨⟨⟨hname,hnp⟩,hres⟩,hbody⟩:=hok;split at hbody
  ·rename_i c hc;refine⟨by simp[iK,hfn,hc];simpa using hname, ?_⟩;intro Pr E0 vals w En;unfold eR at h;split at h
   ·rename_i hlen;have R0:=lC En (m:=fn.ntmps) (by omega);rw[hlen] at R0;refine calls_of_wp hfn hc ?_;split at h
    ·cases h
    ·rename_i out s hne hex;split at h
     ·rename_i rs after' hrs hlf;split at h
      ·rename_i hnd;rw[aa] at h;obtain⟨vs,hvs,he⟩:=h;simp only[ah] at he;obtain⟨rfl,rfl⟩:=he;refine pb hcf k b.body c hbody (s:={t:=(List.range b.np).zip as,o:=lent,n:=2000000}) R0 hex ?_;intro E' a' w' R';obtain⟨xs,hxs,hl,hrep⟩:=fO R' hres hrs;have hrun:=ji hxs;have B:=mN En hlen R' hlf hnd hvs hl hrep;cases out with
       |exit id=>exact(hne _ rfl).elim
       |normal=>exact⟨R'.defers,_,hrun,_,_,_,rfl,B⟩
       |ret=>exact⟨R'.defers,_,hrun,_,_,_,rfl,B⟩
      ·cases h
     ·cases h
    ·cases h
   ·cases h
  ·cases hbody
 ·cases hok
def iB(P:Program)(F:Nat→FuncId)(f:Nat)(g:List V→List (Nat×Ob)→Option (V×List (Nat×Ob))):Prop:=
 ∀as lent res after,g as lent=some (res,after)→iK P F f=true∧∀Pr E0 vals w,Entry F Pr E0 as lent vals w→
  Calls P (F f) vals w fun e w'=>∃val E' own,e= .returned val∧oW F Pr E0 lent w E' own res after val w'
def eo(P:Program)(F:Nat→FuncId)(M:Nat→Option Body):Prop:=
 ∀f,match M f with
  |some (.code b)=>ch P F f b=true
  |some (.ext g)=>iB P F f g
  |none=>True
theorem mP{M:Nat→Option Body}(hM:eo P F M):∀k,ec P F (hH M k)
 |0=>fun f as lent res after h=>by simp[hH] at h
 |k+1=>fun f as lent res after h=>by
  simp only[hH] at h;have hf:=hM f;split at h
  ·rename_i b hb;rw[hb] at hf;exact pc (mP hM k) hf h
  ·rename_i g hg;rw[hg] at hf;exact hf as lent res after h
  ·cases h
end Mx
namespace Mx
open Go
def Le(cf cf':au):Prop:=∀f as lent r,cf f as lent=some r→cf' f as lent=some r
theorem fL{cf cf':au}(h:Le cf cf'){n:Nat}{o:List (Nat×Ob)}{f:Nat}{vals:List V}{lend:List Nat}{thaw:List (Nat×Nat)}{r:V×List (Nat×Ob)}(hd:br cf n o f vals lend thaw=some r):
  br cf' n o f vals lend thaw=some r:=by
 unfold br at hd ⊢;split at hd
 ·cases hd
 ·rename_i as ls b hargs;split at hd
  ·rename_i hc;rw[if_pos hc];split at hd
   ·cases hd
   ·rename_i res after hres;rw[h _ _ _ _ hres];exact hd
  ·cases hd
theorem jN{cf cf':au}(h:Le cf cf'){n d:Nat}{t:List (Nat×V)}{o:List (Nat×Ob)}{m:MO}{r:V×List (Nat×Ob)}(ha:act cf n d t o m=some r):act cf' n d t o m=some r:=by
 cases m with
 |call f as lend thaw=>
  simp only[act] at ha ⊢;split at ha
  ·exact fL h ha
  ·cases ha
 |fN x as=>
  simp only[act] at ha ⊢;split at ha
  ·exact fL h ha
  ·cases ha
 |_=>exact ha
theorem hP{cf cf':au}(h:Le cf cf'){n i:Nat}{m:cr}{t:List (Nat×V)}{o:List (Nat×Ob)}{r:List (Nat×V)×List (Nat×Ob)}(hs:step cf n i m t o=some r):step cf' n i m t o=some r:=by
 unfold step at hs ⊢;split at hs
 ·rw[aa] at hs ⊢;obtain⟨x,hx,rfl⟩:=hs;exact⟨x,jN h hx,rfl⟩
 ·exact hs
 ·cases hs
theorem dE{cf cf':au}(h:Le cf cf'){n:Nat}:∀{ms:List cr} {i:Nat} {t:List (Nat×V)} {o:List (Nat×Ob)} {r:List (Nat×V)×List (Nat×Ob)},steps cf n i ms t o=some r→steps cf' n i ms t o=some r
 |[],i,t,o,r,hs=>hs
 |m::ms,i,t,o,r,hs=>by
  simp only[steps] at hs ⊢;split at hs
  ·rename_i t' o' h1;rw[hP h h1];exact dE h hs
  ·cases hs
theorem gN{cf cf':au}(h:Le cf cf'){n i:Nat}{m:cr}{t:List (Nat×V)}{o:List (Nat×Ob)}{e:cE}(hs:cq cf n i m t o=some e):cq cf' n i m t o=some e:=by
 unfold cq at hs ⊢;split at hs
 ·rw[aa] at hs ⊢;obtain⟨x,hx,rfl⟩:=hs;exact⟨x,jN h hx,rfl⟩
 ·exact hs
 ·cases hs
theorem cX{cf cf':au}(h:Le cf cf'){n:Nat}:∀{ms:List cr} {as:List (List Nat)} {i:Nat} {t:List (Nat×V)} {o:List (Nat×Ob)} {acc:List (Nat×cE)} {r:List (Nat×V)×List (Nat×Ob)},bg cf n i ms as t o acc=some r→bg cf' n i ms as t o acc=some r
 |[],as,i,t,o,acc,r,hs=>hs
 |m::ms,[],i,t,o,acc,r,hs=>by simp[bg] at hs
 |m::ms,a::as,i,t,o,acc,r,hs=>by
  simp only[bg] at hs ⊢;split at hs
  ·rename_i e he;rw[gN h he];simp only;split at hs
   ·rename_i hc;rw[if_pos hc];exact cX h hs
   ·cases hs
  ·cases hs
theorem dK{f g:St→Option (Out×St)}(h:∀s r,f s=some r→g s=some r):∀{m m':Nat} (_:m≤m') {s:St} {r:Out×St},bq f m s=some r→bq g m' s=some r
 |0,_,_,s,r,hl=>by simp[bq] at hl
 |m+1,0,hm,_,_,_=>by omega
 |m+1,m'+1,hm,s,r,hl=>by
  simp only[bq] at hl ⊢;cases hf:f s with
  |none=>rw[hf] at hl;cases hl
  |some x=>
   obtain⟨out,s'⟩:=x;rw[hf] at hl;rw[h s _ hf];cases out with
   |normal=>exact dK h (by omega) hl
   |exit id=>exact hl
   |ret=>exact hl
theorem mT{cf cf':au}(h:Le cf cf'){k k':Nat}(hk:k≤k'):∀(c:C) {s:St} {r:Out×St},bp cf k c s=some r→bp cf' k' c s=some r:=by
 intro c
 induction c with
 |skip=>intro s r hs;exact hs
 |a7 ops kt ko=>
  intro s r hs;simp only[bp,aa] at hs ⊢;obtain⟨x,hx,rfl⟩:=hs;exact⟨x,dE h hx,rfl⟩
 |jZ ops anc kt ko=>
  intro s r hs;simp only[bp,aa] at hs ⊢;obtain⟨x,hx,rfl⟩:=hs;exact⟨x,cX h hx,rfl⟩
 |seq a b iha ihb=>
  intro s r hs;simp only[bp] at hs ⊢;cases ha:bp cf k a s with
  |none=>rw[ha] at hs;cases hs
  |some x=>
   obtain⟨out,s'⟩:=x;rw[ha] at hs;rw[iha ha];cases out with
   |normal=>exact ihb hs
   |exit id=>exact hs
   |ret=>exact hs
 |cond c a b iha ihb=>
  intro s r hs;simp only[bp] at hs ⊢;split at hs
  ·rename_i hc;exact iha hs
  ·rename_i hc;exact ihb hs
  ·cases hs
 |block id a iha=>
  intro s r hs;simp only[bp] at hs ⊢;cases ha:bp cf k a s with
  |none=>rw[ha] at hs;cases hs
  |some x=>
   obtain⟨out,s'⟩:=x;rw[ha] at hs;rw[iha ha];exact hs
 |loop a iha=>
  intro s r hs;simp only[bp] at hs ⊢;exact dK (fun s r h=>iha h) hk hs
 |exit id=>intro s r hs;exact hs
 |ret=>intro s r hs;exact hs
 |shut ids a iha=>intro s r hs;simp only[bp] at hs ⊢;exact iha hs
theorem mX{cf cf':au}(h:Le cf cf'){k k':Nat}(hk:k≤k'){f:Fn}{as:List V}{lent:List (Nat×Ob)}{r:V×List (Nat×Ob)}(hs:eR cf k f as lent=some r):eR cf' k' f as lent=some r:=by
 unfold eR at hs ⊢;split at hs
 ·rename_i hn;rw[if_pos hn];cases hx:bp cf k f.body {t:=(List.range f.np).zip as,o:=lent,n:=2000000} with
  |none=>rw[hx] at hs;cases hs
  |some x=>
   rw[hx] at hs;rw[mT h hk _ hx];exact hs
 ·cases hs
theorem cj(M:Nat→Option Body):∀{k k':Nat},k≤k'→Le (hH M k) (hH M k')
 |0,_,_=>fun f as lent r h=>by simp[hH] at h
 |k+1,0,hk=>by omega
 |k+1,k'+1,hk=>fun f as lent r h=>by
  have hk':k≤k':=by omega
  simp only[hH] at h ⊢;cases hM:M f with
  |none=>rw[hM] at h;cases h
  |some b=>
   rw[hM] at h;cases b with
   |code b=>exact mX (cj M hk') hk' h
   |ext g=>exact h
noncomputable def run (M:Nat→Option Body):au:=fun f as lent=>
 open Classical in if h:∃r,∃k,hH M k f as lent=some r then some h.choose else none
theorem fX{M:Nat→Option Body}{f:Nat}{as:List V}{lent:List (Nat×Ob)}{r:V×List (Nat×Ob)}:run M f as lent=some r↔∃k,hH M k f as lent=some r:=by
 unfold run;constructor
 ·intro h;split at h
  ·rename_i hx;cases h;exact hx.choose_spec
  ·cases h
 ·rintro ⟨k,hk⟩;have hx:∃r,∃k,hH M k f as lent=some r:=⟨r,k,hk⟩
  rw[dif_pos hx];obtain⟨k2,h2⟩:=hx.choose_spec;have e1:=cj M (Nat.le_max_left k k2) _ _ _ _ hk;have e2:=cj M (Nat.le_max_right k k2) _ _ _ _ h2;rw[e1] at e2;exact e2.symm
theorem o7{P:Program}{F:Nat→FuncId}{M:Nat→Option Body}(hM:eo P F M):ec P F (run M):=by
 intro f as lent res after h;obtain⟨k,hk⟩:=fX.1 h;exact mP hM k f as lent res after hk
section
variable {M:Nat→Option Body}
theorem kW{n d:Nat}{t:List (Nat×V)}{o:List (Nat×Ob)}{m:MO}{r:V×List (Nat×Ob)}(h:act (run M) n d t o m=some r):∃k,act (hH M k) n d t o m=some r:=by
 have key:∀{f vals lend thaw},br (run M) n o f vals lend thaw=some r→∃k,br (hH M k) n o f vals lend thaw=some r:=by
  intro f vals lend thaw hd;unfold br at hd;split at hd
  ·cases hd
  ·rename_i as ls b hargs;split at hd
   ·rename_i hc;split at hd
    ·cases hd
    ·rename_i res after hres;obtain⟨k,hk⟩:=fX.1 hres;refine⟨k, ?_⟩;unfold br;rw[hargs];simp only;rw[if_pos hc,hk];exact hd
   ·cases hd
 cases m with
 |call f as lend thaw=>
  simp only[act] at h ⊢;split at h
  ·rename_i vals hv;exact key h
  ·cases h
 |fN x as=>
  simp only[act] at h ⊢;split at h
  ·exact key h
  ·cases h
 |_=>exact⟨0,h⟩
theorem hO{n:Nat}:∀{ms:List cr} {i:Nat} {t:List (Nat×V)} {o:List (Nat×Ob)} {r:List (Nat×V)×List (Nat×Ob)},steps (run M) n i ms t o=some r→∃k,steps (hH M k) n i ms t o=some r
 |[],i,t,o,r,h=>⟨0,h⟩
 |m::ms,i,t,o,r,h=>by
  simp only[steps] at h;split at h
  ·rename_i t' o' h1;obtain⟨k2,h2⟩:=hO h;have:∃k1,step (hH M k1) n i m t o=some (t',o'):=by
    unfold step at h1;split at h1
    ·rename_i hw;rw[aa] at h1;obtain⟨x,hx,hx2⟩:=h1;obtain⟨k,hk⟩:=kW hx;refine⟨k, ?_⟩;unfold step;rw[hw];simp only[hk,bA,hx2]
    ·rename_i hw;refine⟨0, ?_⟩;unfold step;rw[hw];exact h1
    ·cases h1
   obtain⟨k1,h1'⟩:=this;refine⟨max k1 k2, ?_⟩;simp only[steps];rw[hP (cj M (Nat.le_max_left k1 k2)) h1'];exact dE (cj M (Nat.le_max_right k1 k2)) h2
  ·cases h
theorem gu{n:Nat}:∀{ms:List cr} {as:List (List Nat)} {i:Nat} {t:List (Nat×V)} {o:List (Nat×Ob)} {acc:List (Nat×cE)} {r:List (Nat×V)×List (Nat×Ob)},bg (run M) n i ms as t o acc=some r→∃k,bg (hH M k) n i ms as t o acc=some r
 |[],as,i,t,o,acc,r,h=>⟨0,h⟩
 |m::ms,[],i,t,o,acc,r,h=>by simp[bg] at h
 |m::ms,a::as,i,t,o,acc,r,h=>by
  simp only[bg] at h;split at h
  ·rename_i e he;split at h
   ·rename_i hc;obtain⟨k2,h2⟩:=gu h;have:∃k1,cq (hH M k1) n i m t o=some e:=by
     unfold cq at he;split at he
     ·rename_i hw;rw[aa] at he;obtain⟨x,hx,hx2⟩:=he;obtain⟨k,hk⟩:=kW hx;refine⟨k, ?_⟩;unfold cq;rw[hw];simp only[hk,bA,hx2]
     ·rename_i hw;refine⟨0, ?_⟩;unfold cq;rw[hw];exact he
     ·cases he
    obtain⟨k1,h1⟩:=this;refine⟨max k1 k2, ?_⟩;simp only[bg];rw[gN (cj M (Nat.le_max_left k1 k2)) h1];simp only;rw[if_pos hc];exact cX (cj M (Nat.le_max_right k1 k2)) h2
   ·cases h
  ·cases h
theorem om{k:Nat}:∀(c:C) {s:St} {r:Out×St},bp (run M) k c s=some r→∃K,∀k',K≤k'→bp (hH M k') (max k k') c s=some r:=by
 intro c
 induction c with
 |skip=>intro s r h;exact⟨0,fun _ _=>h⟩
 |a7 ops kt ko=>
  intro s r h;simp only[bp,aa] at h ⊢;obtain⟨x,hx,rfl⟩:=h;obtain⟨K,hK⟩:=hO hx;exact⟨K,fun k' hk'=>⟨x,dE (cj M hk') hK,rfl⟩⟩
 |jZ ops anc kt ko=>
  intro s r h;simp only[bp,aa] at h ⊢;obtain⟨x,hx,rfl⟩:=h;obtain⟨K,hK⟩:=gu hx;exact⟨K,fun k' hk'=>⟨x,cX (cj M hk') hK,rfl⟩⟩
 |seq a b iha ihb=>
  intro s r h;simp only[bp] at h ⊢;cases ha:bp (run M) k a s with
  |none=>rw[ha] at h;cases h
  |some x=>
   obtain⟨out,s'⟩:=x;rw[ha] at h;obtain⟨K1,h1⟩:=iha ha;cases out with
   |normal=>
    obtain⟨K2,h2⟩:=ihb h;exact⟨max K1 K2,fun k' hk'=>by rw[h1 k' (by omega)];exact h2 k' (by omega)⟩
   |exit id=>exact⟨K1,fun k' hk'=>by rw[h1 k' hk'];exact h⟩
   |ret=>exact⟨K1,fun k' hk'=>by rw[h1 k' hk'];exact h⟩
 |cond c a b iha ihb=>
  intro s r h;simp only[bp] at h ⊢;split at h
  ·exact iha h
  ·exact ihb h
  ·cases h
 |block id a iha=>
  intro s r h;simp only[bp] at h ⊢;cases ha:bp (run M) k a s with
  |none=>rw[ha] at h;cases h
  |some x=>
   obtain⟨out,s'⟩:=x;rw[ha] at h;obtain⟨K1,h1⟩:=iha ha;exact⟨K1,fun k' hk'=>by rw[h1 k' hk'];exact h⟩
 |loop a iha=>
  intro s r h;simp only[bp] at h ⊢;have key:∀(m:Nat) {s:St},bq (bp (run M) k a) m s=some r→∃K,∀k',K≤k'→bq (bp (hH M k') (max k k') a) m s=some r:=by
   intro m
   induction m with
   |zero=>intro s h;simp[bq] at h
   |succ m ihm=>
    intro s h;simp only[bq] at h;cases ha:bp (run M) k a s with
    |none=>rw[ha] at h;cases h
    |some x=>
     obtain⟨out,s'⟩:=x;rw[ha] at h;obtain⟨K1,h1⟩:=iha ha;cases out with
     |normal=>
      obtain⟨K2,h2⟩:=ihm h;exact⟨max K1 K2,fun k' hk'=>by simp only[bq];rw[h1 k' (by omega)];exact h2 k' (by omega)⟩
     |exit id=>exact⟨K1,fun k' hk'=>by simp only[bq];rw[h1 k' hk'];exact h⟩
     |ret=>exact⟨K1,fun k' hk'=>by simp only[bq];rw[h1 k' hk'];exact h⟩
  obtain⟨K,hK⟩:=key k h;exact⟨K,fun k' hk'=>dK (fun _ _ h=>h) (Nat.le_max_left _ _) (hK k' hk')⟩
 |exit id=>intro s r h;exact⟨0,fun _ _=>h⟩
 |ret=>intro s r h;exact⟨0,fun _ _=>h⟩
 |shut ids a iha=>intro s r h;simp only[bp] at h ⊢;exact iha h
end
theorem bE{M:Nat→Option Body}{f:Nat}{b:Fn}(hM:M f=some (.code b)){as:List V}{lent:List (Nat×Ob)}{r:V×List (Nat×Ob)}(h:∃k,eR (run M) k b as lent=some r):run M f as lent=some r:=by
 obtain⟨k,h⟩:=h;unfold eR at h;split at h
 ·rename_i hn;cases hx:bp (run M) k b.body {t:=(List.range b.np).zip as,o:=lent,n:=2000000} with
  |none=>rw[hx] at h;cases h
  |some x=>
   rw[hx] at h;obtain⟨K,hK⟩:=om _ hx;refine fX.2 ⟨max k K+1, ?_⟩;simp only[hH,hM];unfold eR;rw[if_pos hn];have:=hK (max k K) (Nat.le_max_right _ _);rw[show max k (max k K)=max k K from by omega] at this;rw[this];exact h
 ·cases h
theorem kA{M:Nat→Option Body}{f:Nat}{g:List V→List (Nat×Ob)→Option (V×List (Nat×Ob))}(hM:M f=some (.ext g)){as:List V}{lent:List (Nat×Ob)}{r:V×List (Nat×Ob)}(h:g as lent=some r):run M f as lent=some r:=
 fX.2 ⟨1,by simp only[hH,hM];exact h⟩
end Mx
namespace Mx
open Go
attribute [simp] kI kB lr Q Qn Qg Qm Qf Ql QL Qs Qb Qi Qx Qa Qv
attribute [simp] bp steps step act wanted cC look a8 fE dp cT gD dq fT get place lenOf bin fZ gw kb V.cells aS setAt iE eT rowsOf fB max2 min2 pw ij mf nO V.fin fc eh iI args dr cu j9 V.im im nM eI V.wr k0 lZ wr cl br back eb dN ff dy V.flat dw bL dO b_ T.scalar fp
theorem mD{α:Type}(l:List (Nat×α)):keep [] l=[]:=rfl
theorem ic{α:Type}(k:Nat)(ks:List Nat)(l:List (Nat×α)):keep (k::ks) l=match get l k with|some v=>(k,v)::keep ks l|none=>keep ks l:=by
 cases h:get l k<;>simp[keep,h]
attribute [simp] mD ic
abbrev I(n:Int):T:= .int .i64 n
abbrev U8(n:Int):T:= .int .u8 n
abbrev bs(l:List UInt8):ByteArray:=⟨l.toArray⟩
abbrev S(l:List UInt8):T:= .str (bs l)
theorem kT(l:List UInt8):(bs l).size=l.length:=by simp[ByteArray.size]
theorem aJ(l:List UInt8)(i:Nat)(h:i<(bs l).size):(bs l)[i]=l[i]'(by simpa [kT] using h):=by
 simp[bs,ByteArray.getElem_eq_getElem_data]
theorem lJ(a b:List UInt8):bs a++bs b=bs (a++b):=by
 apply ByteArray.ext;simp[bs,ByteArray.data_append]
theorem kj(a:List UInt8)(i j:Nat):(bs a).extract i j=bs ((a.take j).drop i):=by
 apply ByteArray.ext;simp[bs,ByteArray.data_extract,List.drop_take]
theorem dx(a:List UInt8):(bs a).toList=a:=by
 rw[ByteArray.toList_eq]
attribute [simp] kT lJ kj dx
theorem gh(a b:List UInt8):(a==b)=decide (a=b):=by rw[Bool.eq_iff_iff];simp
theorem aA(a b:List UInt8)(h:a.length+b.length≤4611686018427387904):bR .add (bs a) (bs b)=some (S (a++b)):=by
 simp[bR,h]
theorem ky(a b:List UInt8):bR .eql (bs a) (bs b)=some (.bool (decide (a=b))):=by simp only[bR,dx,gh]
theorem nP(a b:List UInt8):bR .neq (bs a) (bs b)=some (.bool !decide (a=b)):=by simp only[bR,dx,gh]
theorem nQ(a b:List UInt8):bR .lss (bs a) (bs b)=some (.bool (cH a b)):=by simp[bR]
theorem nR(a b:List UInt8):bR .leq (bs a) (bs b)=some (.bool (cH a b||decide (a=b))):=by simp only[bR,dx,gh]
theorem nS(a b:List UInt8):bR .gtr (bs a) (bs b)=some (.bool !(cH a b||decide (a=b))):=by simp only[bR,dx,gh]
theorem nT(a b:List UInt8):bR .geq (bs a) (bs b)=some (.bool !(cH a b)):=by simp[bR]
attribute [simp] aA ky nP nQ nR nS nT
theorem mq(s:ByteArray):∃l,s=bs l:=⟨s.data.toList,by simp[bs]⟩
theorem wrap_i64{x:Int}(h: -9223372036854775808≤x)(h':x≤9223372036854775807):IntKind.i64.wrap x=x:=by
 unfold IntKind.wrap;simp[IntKind.bits,IntKind.signed]<;>omega
theorem eS{i:Nat}(h:i<9223372036854775807):IntKind.i64.wrap ((i:Int)+1)=(i:Int)+1:=wrap_i64 (by omega) (by omega)
theorem jb(a b:UInt8):((a.toNat:Int)=(b.toNat:Int))↔a=b:=by
 rw[←UInt8.toNat_inj];omega
def fx(l:List UInt8):List (List T):=l.map fun b=>[U8 b.toNat]
theorem m9(l:List UInt8):(fx l).length=l.length:=by simp[fx]
theorem jD(a b:List UInt8):fx a++fx b=fx (a++b):=by simp[fx]
theorem lK(a:List UInt8)(n:Nat):(fx a).take n=fx (a.take n):=by simp[fx]
theorem kl(l:List UInt8):di (fx l)=some l:=by
 induction l with
 |nil=>rfl
 |cons b l ih=>
  unfold di fx at ih ⊢;simp only[aI,aS,ih];simp
theorem kk(l:List UInt8):(fx l).isEmpty=l.isEmpty:=by cases l<;>rfl
attribute [simp] m9 jD lK kl kk
theorem mw{β:Type}{f:St→Option (Out×St)}(S:Nat→β→St)(Post:Out×St→Prop)(n:Nat)
  (h:∀i,i<n→∀x,∃y,f (S i x)=some (.normal,S (i+1) y)) (hend:∀x,∃r,f (S n x)=some r∧r.1≠.normal∧Post r):
  ∀m,n<m→∀x,∃r,bq f m (S 0 x)=some r∧Post r:=by
 have key:∀d i,i+d=n→∀m,d<m→∀x,∃r,bq f m (S i x)=some r∧Post r:=by
  intro d
  induction d with
  |zero=>
   intro i hi m hm x;have:i=n:=by omega
   subst this;obtain⟨r,h1,h2,h3⟩:=hend x;cases m with
   |zero=>omega
   |succ m=>
    refine⟨r, ?_,h3⟩;simp only[bq,h1];obtain⟨out,s'⟩:=r;cases out with
    |normal=>exact(h2 rfl).elim
    |exit id=>rfl
    |ret=>rfl
  |succ d ih=>
   intro i hi m hm x;cases m with
   |zero=>omega
   |succ m=>
    obtain⟨y,hy⟩:=h i (by omega) x;obtain⟨r,h1,h2⟩:=ih (i+1) (by omega) m (by omega) y;exact⟨r,by simp only[bq,hy];exact h1,h2⟩
 intro m hm x;exact key n 0 (by omega) m hm x
theorem lq{σ β ρ:Type}{f:St→Option (Out×St)}(S:σ→β→St)(Inv:σ→Prop)(μ:σ→Nat)(res:σ→ρ)(Post:ρ→Out×St→Prop)
  (h:∀s x,Inv s→(∃s' y,f (S s x)=some (.normal,S s' y)∧Inv s'∧μ s'<μ s∧res s'=res s)∨(∃r,f (S s x)=some r∧r.1≠.normal∧Post (res s) r)):
  ∀m s x,Inv s→μ s<m→∃r,bq f m (S s x)=some r∧Post (res s) r:=by
 intro m
 induction m with
 |zero=>intro s x _ h;omega
 |succ m ih=>
  intro s x hi hm;rcases h s x hi with⟨s',y,h1,h2,h3,h4⟩|⟨r,h1,h2,h3⟩
  ·obtain⟨r,k1,k2⟩:=ih s' y h2 (by omega);exact⟨r,by simp only[bq,h1];exact k1,by rw[←h4];exact k2⟩
  ·refine⟨r, ?_,h3⟩;simp only[bq,h1];obtain⟨out,s'⟩:=r;cases out with
   |normal=>exact(h2 rfl).elim
   |exit id=>rfl
   |ret=>rfl
theorem jo{σ β ρ γ:Type}{f:St→Option (Out×St)}(S:σ→β→St)(Inv:σ→Prop)(μ:σ→Nat)(res:σ→ρ)(fin:ρ→γ→Out×St)
  (h:∀s x,Inv s→(∃s' y,f (S s x)=some (.normal,S s' y)∧Inv s'∧μ s'<μ s∧res s'=res s)∨(∃z,f (S s x)=some (fin (res s) z)∧(fin (res s) z).1≠.normal)):
  ∀m s,Inv s→μ s<m→∃g:β→γ,∀x,bq f m (S s x)=some (fin (res s) (g x)):=by
 intro m s hi hm;have:=fun x=>lq S Inv μ res (fun q r=>∃z,r=fin q z)
  (fun s x hi=>by
   rcases h s x hi with h1|⟨z,h1,h2⟩
   ·exact .inl h1
   ·exact .inr ⟨_,h1,h2,z,rfl⟩) m s x hi hm
 refine⟨fun x=>(this x).choose_spec.2.choose,fun x=> ?_⟩;have h1:=(this x).choose_spec;rw[h1.1,←h1.2.choose_spec]
def MO.pure:MO→Bool
 | .mv _=>true
 | .pick .. =>true
 | .load .. =>true
 | .bin .. =>true
 | .beq .. =>true
 | .eqs .. =>true
 | .not _=>true
 | .neg _=>true
 | .mI .. =>true
 | .eD .. =>true
 | .da .. =>true
 | .idx .. =>true
 | .og .. =>true
 | .ext .. =>true
 | .len _=>true
 | .dW _=>true
 | .gY .. =>true
 | .max .. =>true
 | .min .. =>true
 | .call _ _ l h=>l.isEmpty&&h.isEmpty
 |_=>false
def cp(cf:au)(n d:Nat)(t:List (Nat×V))(o:List (Nat×Ob))(op:MO):nK:=match op with
 | .call f as l h=>act cf n d t (keep (cQ t o (.call f as l h)) o) (.call f as l h)
 |op=>act cf n d t o op
def dF(cf:au)(n:Nat):Nat→List cr→List (Nat×V)→List (Nat×Ob)→Option (List (Nat×V)×List (Nat×Ob))
 |_,[],t,o=>some (t,o)
 |i,m::ms,t,o=>match wanted t m.guard with
  |some true=>(match cp cf (n+16*i) (m.dst.getD 0) t o m.op with|some r=>dF cf n (i+1) ms (cC t m.dst r.1) o|none=>none)
  |some false=>dF cf n (i+1) ms (cC t m.dst .undef) o
  |none=>none
theorem iu{n:Nat}{l:List (Nat×Nat×Nat)}{q:Nat}{t:T}{r:T×List (Nat×Ob)}(h:dy n l [] q t=some r):r.2=[]:=by
 cases t<;>simp[dy,get] at h<;>try (subst h;rfl)
 split at h<;>simp at h
 subst h;rfl
theorem iv{n:Nat}{l:List (Nat×Nat×Nat)}:∀{ts:List T} {q:Nat} {r:List T×List (Nat×Ob)},ff n l [] q ts=some r→r.2=[]
 |[],_,r,h=>by simp[ff] at h;subst h;rfl
 |t::ts,q,r,h=>by
  simp only[ff] at h;split at h<;>try (cases h)
  rename_i a b hb;split at h<;>cases h
  rename_i a' b' hb';have h1:=iu hb;have h2:=iv hb';simp only at h1 h2;subst h1 h2;rfl
theorem iq{n:Nat}{l:List (Nat×Nat×Nat)}{q:Nat}{v:V}{r:V×List (Nat×Ob)×Nat}(h:eb n l [] q v=some r):r.2.1=[]:=by
 cases v<;>simp only[eb] at h<;>try (cases h)
 ·split at h<;>cases h
  rename_i a b hb;exact iu hb
 ·split at h<;>cases h
  rename_i a b hb;exact iv hb
theorem gS{n:Nat}{l:List (Nat×Nat×Nat)}:∀{vs:List V} {q:Nat} {r:List V×List (Nat×Ob)},dN n l [] q vs=some r→r.2=[]
 |[],_,r,h=>by simp[dN] at h;subst h;rfl
 |v::vs,q,r,h=>by
  simp only[dN] at h;split at h<;>try (cases h)
  rename_i a b c hb;split at h<;>cases h
  rename_i a' b' hb';have h1:=iq hb;have h2:=gS hb';simp only at h1 h2;subst h1 h2;rfl
theorem m_{n:Nat}{l:List (Nat×Nat×Nat)}{v:V}{r:V×List (Nat×Ob)}(h:back n l [] v=some r):r.2=[]:=by
 unfold back at h;split at h<;>simp only[aa] at h<;>obtain⟨a,h1,rfl⟩:=h
 ·exact gS h1
 ·exact iq h1
theorem jH{o:List (Nat×Ob)}:∀{vs:List V} {p:Nat} {r:List V×List (Nat×Nat×Ob)×List Nat},args o [] p vs=some r→r.2.1=[]
 |[],_,r,h=>by simp[args] at h;subst h;rfl
 |v::vs,p,r,h=>by
  simp only[args] at h;split at h<;>try (cases h)
  rename_i a b c hb;simp only[List.not_mem_nil,if_false,j9,List.any_nil,aD] at h;split at h<;>cases h
  exact jH (r:=(a,b,c)) hb
theorem kh{cf:au}{n:Nat}{o:List (Nat×Ob)}{f:Nat}{vals:List V}{r:V×List (Nat×Ob)}(h:br cf n o f vals [] []=some r):r.2=[]:=by
 unfold br at h;split at h<;>try (cases h)
 rename_i as ls b ha;have:=jH ha;simp only at this;subst this;split at h<;>try (cases h)
 split at h<;>try (cases h)
 rename_i res after _;split at h<;>try (cases h)
 rename_i aK v ups' h1 h2;simp[bL] at h1;have:=m_ h2;simp only at this;subst this h1;split at h<;>cases h
 rfl
theorem nh{cf:au}{n d:Nat}{t:List (Nat×V)}{o:List (Nat×Ob)}{op:MO}(hp:op.pure=true){r:V×List (Nat×Ob)}(h:act cf n d t o op=some r):r.2=[]:=by
 cases op<;>simp only[MO.pure] at hp<;>simp only[act] at h<;>try (cases hp;done)
 all_goals first
  |(simp only[aa] at h;obtain⟨a,_,rfl⟩:=h;rfl)
  |(repeat' split at h)<;>first|(cases h;done)|(cases h;rfl)|(simp only[aa] at h;obtain⟨a,_,rfl⟩:=h;rfl)|(simp only[List.isEmpty_iff,ae] at hp;obtain⟨rfl,rfl⟩:=hp;exact kh h)
theorem fH{α:Type}(ks:List Nat)(l:List (Nat×α)){x:Nat}(h:x∈ks):get (keep ks l) x=get l x:=by
 induction ks with
 |nil=>simp at h
 |cons k ks ih=>
  rw[ic];by_cases e:x=k
  ·subst e;cases hg:get l x with
   |none=>
    simp only[];by_cases hm:x∈ks
    ·rw[ih hm,hg]
    ·cases hq:get (keep ks l) x with
     |none=>rfl
     |some v=>exact(hm (fb ks l hq)).elim
   |some v=>simp[get]
  ·have hm:x∈ks:=by simpa [e] using h
   cases hg:get l k with
   |none=>exact ih hm
   |some v=>simp only[get,e,if_false];exact ih hm
theorem j0{o:List (Nat×Ob)}{ks:List Nat}{a:T}(h:∀x∈dv a,x∈ks):place (keep ks o) a=place o a:=by
 cases a<;>simp only[place]
 rename_i id ar i j;rw[fH ks o (h id (by simp[dv]))]
theorem k7{t:List (Nat×V)}{o:List (Nat×Ob)}{op:MO}{n:Nat}{a:T}(h:n∈op.kd)(hg:get t n=some (.c a)):∀x∈dv a,x∈cQ t o op:=by
 intro x hx;simp only[cQ,a_];exact⟨n,h,by rw[hg];simp[gJ,hx]⟩
def O.plain:O→Bool
 | .k v=>(dv v).isEmpty
 |_=>true
def MO.iH:MO→Bool
 | .load _ _ a=>a.plain
 | .da _ x _=>x.plain
 |_=>true
theorem h_{t:List (Nat×V)}{o:List (Nat×Ob)}{op:MO}{x:O}{a:T}(hp:x.plain=true)(h:a8 t x=some a)(hm:∀n,x= .t n→n∈op.kd):∀y∈dv a,y∈cQ t o op:=by
 cases x with
 |t n=>
  simp only[a8,look] at h;split at h<;>cases h
  rename_i hg;exact k7 (hm n rfl) hg
 |k v=>
  simp only[a8,look] at h;cases h;simp only[O.plain,List.isEmpty_iff] at hp;intro y hy;rw[hp] at hy;cases hy
 |fn f=>
  simp only[a8,look] at h;cases h;intro y hy;simp[dv] at hy
theorem nr{cf:au}{n d:Nat}{t:List (Nat×V)}{o:List (Nat×Ob)}{op:MO}(hp:op.pure=true)(hp2:op.iH=true):
  act cf n d t (keep (cQ t o op) o) op=cp cf n d t o op:=by
 cases op<;>simp only[MO.pure] at hp<;>simp only[cp]<;>try (cases hp;done)
 all_goals try (simp only[act];done)
 case load agg k a=>
  simp only[act];cases ha:a8 t a with
  |none=>rfl
  |some v=>
   simp only[];rw[j0 (h_ hp2 ha (fun m e=>by subst e;simp[MO.kd,MO.tmps,O.tmps]))]
 case da sz x ix=>
  simp only[act];cases ha:a8 t x with
  |none=>rfl
  |some v=>
   cases v with
   |row id ar off len=>
    cases hi:cT t ix with
    |none=>rfl
    |some i=>
     simp only[];rw[fH _ o (h_ (o:=o) (op:= .da sz x ix) hp2 ha (fun m e=>by subst e;simp[MO.kd,MO.tmps,O.tmps]) id (by simp[dv]))]
   |sl own s rows=>cases cT t ix<;>rfl
   |_=>cases cT t ix<;>rfl
def dk:List cr→Bool
 |[]=>true
 |m::ms=>m.op.pure&&m.op.iH&&dk ms
theorem dV{cf:au}{n:Nat}:∀(ms:List cr) (as:List (List Nat)) (i:Nat) (t:List (Nat×V)) (o:List (Nat×Ob)) (acc:List (Nat×cE)),dk ms=true→ms.length≤as.length→(∀p∈acc,p.2.aK=[])→
  bg cf n i ms as t o acc=dF cf n i ms t o
 |[],as,i,t,o,acc,_,_,_=>by simp[bg,dF]
 |m::ms,[],i,t,o,acc,_,h,_=>by simp at h
 |m::ms,a::as,i,t,o,acc,hp,hl,ha=>by
  simp only[dk,ae] at hp;have hk:=nr (cf:=cf) (n:=n+16*i) (d:=m.dst.getD 0) (t:=t) (o:=o) hp.1.1 hp.1.2;simp only[bg,dF,cq];cases hw:wanted t m.guard with
  |none=>rfl
  |some b=>
   have hall:∀e:cE,e.aK=[]→acc.all (fun x=>a.contains x.1||e.apart x.2)=true:=by
    intro e he;simp only[ao];intro p hpm;simp[cE.apart,cE.W,he,ha p hpm]
   cases b with
   |false=>
    simp only[];rw[if_pos (hall _ rfl),nL];exact dV ms as (i+1) _ o _ hp.2 (by simp at hl;omega) (fun p h=>by
     rcases List.mem_cons.1 h with rfl|h
     ·rfl
     ·exact ha p h)
   |true=>
    simp only[hk];cases hr:cp cf (n+16*i) (m.dst.getD 0) t o m.op with
    |none=>rfl
    |some r=>
     have hu:r.2=[]:=by
      rw[←hk] at hr;exact nh hp.1.1 hr
     simp only[bA];rw[if_pos (hall _ hu),hu,nL];exact dV ms as (i+1) _ o _ hp.2 (by simp at hl;omega) (fun p h=>by
      rcases List.mem_cons.1 h with rfl|h
      ·first|exact hu|rfl
      ·exact ha p h)
theorem lh{cf:au}{n:Nat}{ms:List cr}{as:List (List Nat)}{t:List (Nat×V)}{o:List (Nat×Ob)}(h1:dk ms=true)(h2:ms.length≤as.length):bg cf n 0 ms as t o []=dF cf n 0 ms t o:=
 dV ms as 0 t o [] h1 h2 (by simp)
def pn:List cr→List (List Nat)→Bool
 |[],_=>true
 |_::_,[]=>false
 |m::ms,_::as=>m.op.pure&&(m.op.iH&&pn ms as)
theorem gy:∀(ms:List cr) (as:List (List Nat)),pn ms as=true→dk ms=true∧ms.length≤as.length
 |[],as,_=>⟨rfl,by simp⟩
 |m::ms,[],h=>by simp[pn] at h
 |m::ms,a::as,h=>by
  simp only[pn,ae] at h;have ih:=gy ms as h.2.2;exact⟨by simp[dk,h.1,h.2.1,ih.1],by simp;exact ih.2⟩
def ev(cf:au)(n i:Nat)(m:cr)(t:List (Nat×V))(o:List (Nat×Ob)):Option (List (Nat×V)):=match wanted t m.guard with
 |some true=>(cp cf (n+16*i) (m.dst.getD 0) t o m.op).map fun r=>cC t m.dst r.1
 |some false=>some (cC t m.dst .undef)
 |none=>none
def fm(cf:au)(n:Nat):Nat→List cr→List (Nat×V)→List (Nat×Ob)→Option (List (Nat×V)×List (Nat×Ob))
 |_,[],t,o=>some (t,o)
 |i,m::ms,t,o=>match ev cf n i m t o with|some t'=>fm cf n (i+1) ms t' o|none=>none
theorem gr{cf:au}{n:Nat}:∀(ms:List cr) (i:Nat) (t:List (Nat×V)) (o:List (Nat×Ob)),dF cf n i ms t o=fm cf n i ms t o
 |[],i,t,o=>by simp only[dF,fm]
 |m::ms,i,t,o=>by
  simp only[dF,fm,ev];cases hw:wanted t m.guard with
  |none=>rfl
  |some b=>
   cases b with
   |false=>exact gr ms _ _ _
   |true=>
    cases hr:cp cf (n+16*i) (m.dst.getD 0) t o m.op with
    |none=>rfl
    |some r=>simp only[bA];exact gr ms _ _ _
theorem nY{cf:au}{n:Nat}{ms:List cr}{as:List (List Nat)}{t:List (Nat×V)}{o:List (Nat×Ob)}(h:pn ms as=true):bg cf n 0 ms as t o []=fm cf n 0 ms t o:=by
 rw[←gr];exact lh (gy ms as h).1 (gy ms as h).2
def nN(acc:List (Nat×cE)):List (Nat×Nat):=acc.flatMap fun x=>x.2.W.map fun y=>(x.1,y)
def o5(acc:List (Nat×cE)):List (Nat×List Nat):=acc.map fun x=>(x.1,x.2.T)
def pP(a:List Nat)(T:List Nat)(aK:List (Nat×Ob))(ws:List (Nat×Nat))(ts:List (Nat×List Nat)):Bool:=
 ws.all (fun w=> !T.contains w.2||a.contains w.1)&&(aK.all fun u=>ts.all (fun x=> !x.2.contains u.1||a.contains x.1)&&ws.all (fun w=> !(u.1==w.2)||a.contains w.1))
def eF(cf:au)(n:Nat):Nat→List cr→List (List Nat)→List (Nat×V)→List (Nat×Ob)→List (Nat×Nat)→List (Nat×List Nat)→Option (List (Nat×V)×List (Nat×Ob))
 |_,[],_,t,o,_,_=>some (t,o)
 |i,m::ms,a::as,t,o,ws,ts=>
  match cq cf n i m t o with
  |some e=>if pP a e.T e.aK ws ts then eF cf n (i+1) ms as (cC t e.dst e.v) (e.aK++o) (e.aK.map (fun u=>(i,u.1))++ws) ((i,e.T)::ts) else none
  |none=>none
 |_,_::_,[],_,_,_,_=>none
theorem o9(a:List Nat)(e:cE)(acc:List (Nat×cE)):acc.all (fun x=>a.contains x.1||e.apart x.2)=pP a e.T e.aK (nN acc) (o5 acc):=by
 rw[Bool.eq_iff_iff];simp only[pP,cE.apart,nN,o5,cE.W,ao,Bool.or_eq_true,ae,Bool.not_eq_true',a_,pN,beq_eq_false_iff_ne];constructor
 ·intro h;refine⟨?_,fun u hu=>⟨?_, ?_⟩⟩
  ·rintro w ⟨x,hx,y,⟨u,hu,rfl⟩,rfl⟩;rcases h x hx with h1|h1
   ·exact .inr h1
   ·exact .inl (h1.2 u.1 ⟨u,hu,rfl⟩)
  ·rintro y ⟨x,hx,rfl⟩;rcases h x hx with h1|h1
   ·exact .inr h1
   ·exact .inl (h1.1 u.1 ⟨u,hu,rfl⟩).1
  ·rintro w ⟨x,hx,y,⟨u',hu',rfl⟩,rfl⟩;rcases h x hx with h1|h1
   ·exact .inr h1
   ·left;have h2:=(h1.1 u.1 ⟨u,hu,rfl⟩).2;rintro e';have h3:List.contains (List.map (fun x=>x.fst) x.2.aK) u.1=true:=by
     rw[List.contains_iff_mem,pN];exact⟨u',hu',e'.symm⟩
    rw[h3] at h2;cases h2
 ·rintro ⟨h1,h2⟩ x hx;by_cases ha:a.contains x.1=true
  ·exact .inl ha
  ·right;refine⟨?_, ?_⟩
   ·rintro y ⟨u,hu,rfl⟩;refine⟨?_, ?_⟩
    ·rcases (h2 u hu).1 (x.1,x.2.T) ⟨x,hx,rfl⟩ with h3|h3
     ·exact h3
     ·exact(ha h3).elim
    ·cases hc:List.contains (List.map (fun x=>x.fst) x.2.aK) u.1 with
     |false=>rfl
     |true=>
      rw[List.contains_iff_mem,pN] at hc;obtain⟨u',hu',e'⟩:=hc;rcases (h2 u hu).2 (x.1,u'.1) ⟨x,hx,u'.1,⟨u',hu',rfl⟩,rfl⟩ with h3|h3
      ·exact(h3 e'.symm).elim
      ·exact(ha h3).elim
   ·rintro y ⟨u,hu,rfl⟩;rcases h1 (x.1,u.1) ⟨x,hx,u.1,⟨u,hu,rfl⟩,rfl⟩ with h3|h3
    ·exact h3
    ·exact(ha h3).elim
theorem je{cf:au}{n:Nat}:∀(ms:List cr) (as:List (List Nat)) (i:Nat) (t:List (Nat×V)) (o:List (Nat×Ob)) (acc:List (Nat×cE)),
  bg cf n i ms as t o acc=eF cf n i ms as t o (nN acc) (o5 acc)
 |[],as,i,t,o,acc=>by simp only[bg,eF]
 |m::ms,[],i,t,o,acc=>by simp only[bg,eF]
 |m::ms,a::as,i,t,o,acc=>by
  simp only[bg,eF];cases he:cq cf n i m t o with
  |none=>rfl
  |some e=>
   simp only[o9 a e acc];split
   ·rw[je ms as (i+1)];congr 1;simp[nN,cE.W]
   ·rfl
theorem o8{cf:au}{n:Nat}{ms:List cr}{as:List (List Nat)}{t:List (Nat×V)}{o:List (Nat×Ob)}:bg cf n 0 ms as t o []=eF cf n 0 ms as t o [] []:=je ms as 0 t o []
section
variable {cf:au} {n d:Nat} {t:List (Nat×V)} {o:List (Nat×Ob)}
theorem lW{f:Nat}{as:List O}{l:List Nat}{h:List (Nat×Nat)}:cp cf n d t o (.call f as l h)=act cf n d t (keep (cQ t o (.call f as l h)) o) (.call f as l h):=rfl
theorem oS(x:O):cp cf n d t o (.mv x)=act cf n d t o (.mv x):=rfl
theorem lU(c a b:O):cp cf n d t o (.pick c a b)=act cf n d t o (.pick c a b):=rfl
theorem lV(agg:Bool)(k:Nat)(a:O):cp cf n d t o (.load agg k a)=act cf n d t o (.load agg k a):=rfl
theorem nH(neg:Bool)(x y:O):cp cf n d t o (.beq neg x y)=act cf n d t o (.beq neg x y):=rfl
theorem nG(op:BinOp)(x y:O):cp cf n d t o (.bin op x y)=act cf n d t o (.bin op x y):=rfl
theorem nF(neg:Bool)(ks:List Kc)(x y:O):cp cf n d t o (.eqs neg ks x y)=act cf n d t o (.eqs neg ks x y):=rfl
theorem nw(x:O):cp cf n d t o (.not x)=act cf n d t o (.not x):=rfl
theorem nx(x:O):cp cf n d t o (.neg x)=act cf n d t o (.neg x):=rfl
theorem nC(k:IntKind)(x:O):cp cf n d t o (.mI k x)=act cf n d t o (.mI k x):=rfl
theorem lS(x:O)(lo hi:Option O):cp cf n d t o (.gY x lo hi)=act cf n d t o (.gY x lo hi):=rfl
theorem ku(off:Nat)(a:O):cp cf n d t o (.eD off a)=act cf n d t o (.eD off a):=rfl
theorem kr(sz:Nat)(x ix:O):cp cf n d t o (.da sz x ix)=act cf n d t o (.da sz x ix):=rfl
theorem nB(x ix:O):cp cf n d t o (.idx x ix)=act cf n d t o (.idx x ix):=rfl
theorem nD(agg:Bool)(off k:Nat)(x:O):cp cf n d t o (.og agg off k x)=act cf n d t o (.og agg off k x):=rfl
theorem nE(i:Nat)(x:O):cp cf n d t o (.ext i x)=act cf n d t o (.ext i x):=rfl
theorem nA(x:O):cp cf n d t o (.len x)=act cf n d t o (.len x):=rfl
theorem lT(x:O):cp cf n d t o (.dW x)=act cf n d t o (.dW x):=rfl
theorem nz(x y:O):cp cf n d t o (.max x y)=act cf n d t o (.max x y):=rfl
theorem ny(x y:O):cp cf n d t o (.min x y)=act cf n d t o (.min x y):=rfl
end
attribute [simp high] nY
attribute [simp low] o8
attribute [simp] lW oS lU lV nH nG nF nw nx nC lS ku kr nB nD nE nA lT nz ny
attribute [simp] ev fm eF pP pn MO.pure MO.iH O.plain cq cQ MO.kd MO.tmps O.tmps gJ dv hC cE.apart cE.W
end Mx
namespace Mx
open Go
def aT.b:C:= .seq (.a7 [Qb 6 false] [0,1,2] [])
 (.seq (.a7 [Qm 7 0,Qm 8 1,Q 9 (.bin .geq (.t 7) (.t 8)),Qm 10 9,Qg 11 (.mv (.t 0)) 10 true,Qg 12 (.mv (.t 2)) 10 true,Qg 13 (.bin .leq (.t 11) (.t 12)) 10 true,
   Q 14 (.pick (.t 10) (.t 13) (kB false)),Qm 6 14] [6] [])
 (.ret))
def aT.m:Fn:={np:=3,body:=aT.b,res:=[.tmp 6]}
def aT.k(M:Nat→Option Body):Prop:=M 101=some (.code aT.m)
def p5(s sep:ByteArray):V:= .fj [.c (.str ⟨(Lib.cut s.data.toList sep.data.toList).1.toArray⟩),.c (.str ⟨(Lib.cut s.data.toList sep.data.toList).2.1.toArray⟩),.c (.bool (Lib.cut s.data.toList sep.data.toList).2.2)]
def jB:List V→List (Nat×Ob)→Option (V×List (Nat×Ob))
 |[.c (.str s),.c (.str sep)],[]=>if s.size<4294967281 then some (p5 s sep,[]) else none
 |_,_=>none
def eG:List V→List (Nat×Ob)→Option (V×List (Nat×Ob))
 |[.c (.str s),.c (.str sep)],[]=>if s.size<4294967281∧1≤sep.size then some (.c (.sl true 1 ((Lib.splitB sep 0 (Lib.countB s sep) s).map fun x=>[T.str x])),[]) else none
 |_,_=>none
def ak.l0:C:= .seq (.seq (.a7 [Qm 8 5,Qm 9 0,Q 10 (.dW (.t 9)),Q 11 (.bin .lss (.t 8) (.t 10)),Qm 12 11,Qg 13 (.mv (.t 5)) 12 true,Qg 14 (.bin .lss (.t 13) (kI 5)) 12 true,
    Q 15 (.pick (.t 12) (.t 14) (kB false))] [0,4,5,15] [])
 (.cond (.t 15) (.skip) (.exit 0)))
 (.seq (.block 1 (.seq (.seq (.a7 [Qm 18 0,Qm 19 5,Q 20 (.idx (.t 18) (.t 19)),Q 21 (.bin .lss (.t 20) (.k (.int .u8 48))),Qm 22 21,Qg 23 (.mv (.t 0)) 22 false,Qg 24 (.mv (.t 5)) 22 false,
   Qg 25 (.idx (.t 23) (.t 24)) 22 false,Qg 26 (.bin .gtr (.t 25) (.k (.int .u8 57))) 22 false,Q 27 (.pick (.t 22) (kB true) (.t 26))] [0,4,5,27] [])
 (.cond (.t 27) (.seq (.a7 [Qi 2 0,Qb 3 false] [2,3] [])
 (.ret)) (.skip)))
 (.a7 [Qm 28 4,Q 29 (.bin .mul (kI 10) (.t 28)),Qm 30 0,Qm 31 5,Q 32 (.idx (.t 30) (.t 31)),Q 33 (.bin .sub (.t 32) (.k (.int .u8 48))),Q 34 (.mI .i64 (.t 33)),
   Q 35 (.bin .add (.t 29) (.t 34)),Qm 4 35] [0,4,5] [])))
 (.a7 [Qm 16 5,Q 17 (.bin .add (.t 16) (kI 1)),Qm 5 17] [0,4,5] []))
def ak.b:C:= .seq (.a7 [Qi 2 0,Qb 3 false] [0] [])
 (.seq (.seq (.a7 [Qm 6 0,Q 7 (.bin .eql (.t 6) (.k (.str ⟨#[42]⟩)))] [0,7] [])
 (.cond (.t 7) (.seq (.a7 [Qi 2 0,Qb 3 true] [2,3] [])
 (.ret)) (.skip)))
 (.seq (.a7 [Qi 4 0] [0,4] [])
 (.seq (.seq (.a7 [Qi 5 0] [0,4,5] [])
 (.block 0 (.loop ak.l0)))
 (.seq (.a7 [Qm 36 4,Qm 37 0,Q 38 (.dW (.t 37)),Q 39 (.call 101 [.t 38,kI 1,kI 4] [] []),Qm 40 39,Qg 41 (.mv (.t 4)) 40 true,Qg 42 (.bin .gtr (.t 41) (kI 0)) 40 true,
   Q 43 (.pick (.t 40) (.t 42) (kB false)),Qm 2 36,Qm 3 43] [2,3] [])
 (.ret)))))
def ak.m:Fn:={np:=1,body:=ak.b,res:=[.tmp 2,.tmp 3]}
def ak.k(M:Nat→Option Body):Prop:=M 539=some (.code ak.m)∧aT.k M
def an.l0:C:= .seq (.a7 [Q 19 (.bin .lss (.t 18) (.t 17))] [4,16,17,18,19] [14,58])
 (.seq (.cond (.t 19) (.skip) (.exit 0))
 (.seq (.block 1 (.seq (.a7 [Qa 20 1 16 18,Ql 21 20,Qm 6 21] [4,6,16,17,18] [14,58])
 (.seq (.a7 [Qm 23 6,Q 24 (.call 130 [.t 23,.k (.str ⟨#[58]⟩)] [] []),Qm 22 24,Qx 25 0 22,Qx 26 1 22,Qx 27 2 22,Qm 7 25,Qm 8 26,Qm 9 27] [4,7,8,9,16,17,18] [14,58])
 (.seq (.seq (.a7 [Qm 28 9,Q 29 (.not (.t 28))] [4,7,8,16,17,18,29] [14,58])
 (.cond (.t 29) (.a7 [Qm 30 7,Qm 8 30] [4,7,8,16,17,18] [14,58]) (.skip)))
 (.seq (.a7 [Qm 32 7,Q 33 (.call 539 [.t 32] [] []),Qm 31 33,Qx 34 0 31,Qx 35 1 31,Qm 10 34,Qm 11 35] [4,8,10,11,16,17,18] [14,58])
 (.seq (.a7 [Qm 37 8,Q 38 (.call 539 [.t 37] [] []),Qm 36 38,Qx 39 0 36,Qx 40 1 36,Qm 12 39,Qm 13 40] [4,10,11,12,13,16,17,18] [14,58])
 (.seq (.seq (.a7 [Qm 41 11,Q 42 (.not (.t 41)),Qm 43 42,Qg 44 (.mv (.t 13)) 43 false,Qg 45 (.not (.t 44)) 43 false,Q 46 (.pick (.t 43) (kB true) (.t 45)),Qm 47 46,Qg 48 (.mv (.t 4)) 47 false,
   Qg 49 (.len (.t 48)) 47 false,Qg 50 (.bin .eql (.t 49) (kI 8)) 47 false,Q 51 (.pick (.t 47) (kB true) (.t 50))] [4,10,12,16,17,18,51] [14,58])
 (.cond (.t 51) (.seq (.a7 [Q 52 (.cm 2 0 [.int .i64 0,.int .i64 0] []),Qm 2 52,Qb 3 false] [2,3] [2,14,52,58])
 (.ret)) (.skip)))
 (.a7 [Qm 53 4,Qm 54 10,Qm 55 12,Q 56 (.build [.int .i64 0,.int .i64 0] [(0,1,.t 54),(1,1,.t 55)]),Q 57 (.cm 2 1 [.int .i64 0,.int .i64 0] [(0,.t 56)]),
   Q 58 (.app 2 16 (.t 53) (.t 57)),Qm 4 58] [4,16,17,18] [14,58]))))))))
 (.a7 [Q 59 (.bin .add (.t 18) (kI 1)),Qm 18 59] [4,16,17,18] [14,58])))
def an.b:C:= .seq (.a7 [Q 2 (.nil 2),Qb 3 false] [0] [])
 (.seq (.a7 [Q 14 (.cm 2 0 [.int .i64 0,.int .i64 0] []),Qm 4 14] [0,4] [14,58])
 (.seq (.seq (.a7 [Qm 15 0,Q 16 (.call 538 [.t 15,.k (.str ⟨#[44]⟩)] [] []),Q 17 (.len (.t 16)),Qi 18 0] [4,16,17,18] [14,58])
 (.block 0 (.loop an.l0)))
 (.seq (.a7 [Qm 60 4,Qm 2 60,Qb 3 true] [2,3] [2,14,52,58])
 (.ret))))
def an.m:Fn:={np:=1,body:=an.b,res:=[.tmp 2,.tmp 3]}
def an.k(M:Nat→Option Body):Prop:=M 530=some (.code an.m)∧M 130=some (.ext jB)∧M 538=some (.ext eG)∧ak.k M
def ai.l0:C:= .seq (.seq (.a7 [Qm 22 8,Qm 23 0,Q 24 (.dW (.t 23)),Q 25 (.bin .lss (.t 22) (.t 24)),Qm 26 25,Qg 27 (.mv (.t 0)) 26 true,Qg 28 (.mv (.t 8)) 26 true,Qg 29 (.idx (.t 27) (.t 28)) 26 true,
    Qg 30 (.bin .geq (.t 29) (.k (.int .u8 48))) 26 true,Q 31 (.pick (.t 26) (.t 30) (kB false)),Qm 32 31,Qg 33 (.mv (.t 0)) 32 true,Qg 34 (.mv (.t 8)) 32 true,
    Qg 35 (.idx (.t 33) (.t 34)) 32 true,Qg 36 (.bin .leq (.t 35) (.k (.int .u8 57))) 32 true,Q 37 (.pick (.t 32) (.t 36) (kB false)),Qm 38 37,Qg 39 (.mv (.t 8)) 38 true,
    Qg 40 (.mv (.t 1)) 38 true,Qg 41 (.bin .add (.t 40) (kI 4)) 38 true,Qg 42 (.bin .lss (.t 39) (.t 41)) 38 true,Q 43 (.pick (.t 38) (.t 42) (kB false))] [0,1,7,8,43] [])
 (.cond (.t 43) (.skip) (.exit 0)))
 (.block 1 (.seq (.a7 [Qm 44 7,Q 45 (.bin .mul (kI 10) (.t 44)),Qm 46 0,Qm 47 8,Q 48 (.idx (.t 46) (.t 47)),Q 49 (.mI .i64 (.t 48)),Q 50 (.bin .add (.t 45) (.t 49)),
   Q 51 (.bin .sub (.t 50) (kI 48)),Qm 7 51] [0,1,7,8] [])
 (.a7 [Qm 52 8,Q 53 (.bin .add (.t 52) (kI 1)),Qm 8 53] [0,1,7,8] [])))
def ai.b:C:= .seq (.a7 [Qi 4 0,Qi 5 0,Qb 6 false] [0,1] [])
 (.seq (.seq (.a7 [Qm 9 1,Qm 10 0,Q 11 (.dW (.t 10)),Q 12 (.bin .lss (.t 9) (.t 11)),Qm 13 12,Qg 14 (.mv (.t 0)) 13 true,Qg 15 (.mv (.t 1)) 13 true,Qg 16 (.idx (.t 14) (.t 15)) 13 true,
   Qg 17 (.bin .eql (.t 16) (.k (.int .u8 42))) 13 true,Q 18 (.pick (.t 13) (.t 17) (kB false))] [0,1,18] [])
 (.cond (.t 18) (.seq (.a7 [Qm 19 1,Q 20 (.bin .add (.t 19) (kI 1)),Qi 4 0,Qm 5 20,Qb 6 true] [4,5,6] [])
 (.ret)) (.skip)))
 (.seq (.a7 [Qi 7 0] [0,1,7] [])
 (.seq (.a7 [Qm 21 1,Qm 8 21] [0,1,7,8] [])
 (.seq (.block 0 (.loop ai.l0))
 (.seq (.a7 [Qm 54 7,Qm 55 8,Qm 56 8,Qm 57 1,Q 58 (.bin .gtr (.t 56) (.t 57)),Qm 59 58,Qg 60 (.mv (.t 7)) 59 true,Qg 61 (.bin .gtr (.t 60) (kI 0)) 59 true,
   Q 62 (.pick (.t 59) (.t 61) (kB false)),Qm 4 54,Qm 5 55,Qm 6 62] [4,5,6] [])
 (.ret))))))
def ai.m:Fn:={np:=2,body:=ai.b,res:=[.tmp 4,.tmp 5,.tmp 6]}
def ai.k(M:Nat→Option Body):Prop:=M 326=some (.code ai.m)
def aj.l0:C:= .block 1 (.seq (.a7 [Qm 17 0,Qm 18 6,Q 19 (.call 326 [.t 17,.t 18] [] []),Qm 16 19,Qx 20 0 16,Qx 21 1 16,Qx 22 2 16,Qm 7 20,Qm 8 21,Qm 9 22] [0,4,5,7,8,9] [14,15,57])
 (.seq (.seq (.a7 [Qm 23 9,Q 24 (.not (.t 23))] [0,4,5,7,8,24] [14,15,57])
 (.cond (.t 24) (.seq (.a7 [Qm 25 4,Qm 2 25,Qb 3 false] [2,3] [2,14,15,57])
 (.ret)) (.skip)))
 (.seq (.a7 [Qm 26 7,Qm 27 7,Q 28 (.build [.int .i64 0,.int .i64 0] [(0,1,.t 26),(1,1,.t 27)]),Q 10 (.alloc [.int .i64 0,.int .i64 0]),Qs 2 10 28] [0,4,5,8,10] [10,14,15,57])
 (.seq (.a7 [Qm 29 8,Qm 6 29] [0,4,5,6,10] [10,14,15,57])
 (.seq (.seq (.a7 [Qm 30 6,Qm 31 0,Q 32 (.dW (.t 31)),Q 33 (.bin .lss (.t 30) (.t 32)),Qm 34 33,Qg 35 (.mv (.t 0)) 34 true,Qg 36 (.mv (.t 6)) 34 true,Qg 37 (.idx (.t 35) (.t 36)) 34 true,
   Qg 38 (.bin .eql (.t 37) (.k (.int .u8 58))) 34 true,Q 39 (.pick (.t 34) (.t 38) (kB false))] [0,4,5,6,10,39] [10,14,15,57])
 (.cond (.t 39) (.seq (.a7 [Qm 41 0,Qm 42 6,Q 43 (.bin .add (.t 42) (kI 1)),Q 44 (.call 326 [.t 41,.t 43] [] []),Qm 40 44,Qx 45 0 40,Qx 46 1 40,Qx 47 2 40,Qm 11 45,Qm 12 46,Qm 13 47] [0,4,5,10,11,12,13] [10,14,15,57])
 (.seq (.seq (.a7 [Qm 48 13,Q 49 (.not (.t 48))] [0,4,5,10,11,12,49] [10,14,15,57])
 (.cond (.t 49) (.seq (.a7 [Qm 50 4,Qm 2 50,Qb 3 false] [2,3] [2,14,15,57])
 (.ret)) (.skip)))
 (.seq (.a7 [Qm 51 11,Qf 52 1 10,Qs 1 52 51] [0,4,5,10,12] [10,14,15,57])
 (.a7 [Qm 53 12,Qm 6 53] [0,4,5,6,10] [10,14,15,57])))) (.skip)))
 (.seq (.a7 [Qm 54 5,QL 55 2 10,Q 56 (.cm 2 1 [.int .i64 0,.int .i64 0] [(0,.t 55)]),Q 57 (.app 2 16 (.t 54) (.t 56)),Qm 5 57] [0,4,5,6] [14,15,57])
 (.seq (.seq (.a7 [Qm 58 5,Q 59 (.len (.t 58)),Q 60 (.bin .gtr (.t 59) (kI 8))] [0,4,5,6,60] [14,15,57])
 (.cond (.t 60) (.seq (.a7 [Qm 61 4,Qm 2 61,Qb 3 false] [2,3] [2,14,15,57])
 (.ret)) (.skip)))
 (.seq (.seq (.a7 [Qm 62 6,Qm 63 0,Q 64 (.dW (.t 63)),Q 65 (.bin .eql (.t 62) (.t 64))] [0,4,5,6,65] [14,15,57])
 (.cond (.t 65) (.seq (.a7 [Qm 66 5,Qm 2 66,Qb 3 true] [2,3] [2,14,15,57])
 (.ret)) (.skip)))
 (.seq (.seq (.a7 [Qm 67 0,Qm 68 6,Q 69 (.idx (.t 67) (.t 68)),Q 70 (.bin .neq (.t 69) (.k (.int .u8 44)))] [0,4,5,6,70] [14,15,57])
 (.cond (.t 70) (.seq (.a7 [Qm 71 4,Qm 2 71,Qb 3 false] [2,3] [2,14,15,57])
 (.ret)) (.skip)))
 (.a7 [Qm 72 6,Q 73 (.bin .add (.t 72) (kI 1)),Qm 6 73] [0,4,5,6] [14,15,57]))))))))))
def aj.b:C:= .seq (.a7 [Q 2 (.nil 2),Qb 3 false] [0] [])
 (.seq (.a7 [Q 14 (.cm 2 0 [.int .i64 0,.int .i64 0] []),Qm 4 14] [0,4] [14])
 (.seq (.a7 [Q 15 (.cm 2 0 [.int .i64 0,.int .i64 0] []),Qm 5 15] [0,4,5] [14,15,57])
 (.seq (.a7 [Qi 6 0] [0,4,5,6] [14,15,57])
 (.block 0 (.loop aj.l0)))))
def aj.m:Fn:={np:=1,body:=aj.b,res:=[.tmp 2,.tmp 3]}
def aj.k(M:Nat→Option Body):Prop:=M 322=some (.code aj.m)∧ai.k M
def aR.b:C:= .seq (.a7 [Qv 2 0,Qv 3 1,Qb 4 false] [2,3] [2,3])
 (.seq (.seq (.a7 [Qf 5 0 2,Ql 6 5,Qf 7 0 3,Ql 8 7,Q 9 (.bin .neq (.t 6) (.t 8))] [2,3,9] [2,3])
 (.cond (.t 9) (.seq (.a7 [Qb 4 false] [4] [])
 (.ret)) (.skip)))
 (.seq (.seq (.a7 [Qf 10 1 2,Ql 11 10,Qf 12 1 3,Ql 13 12,Q 14 (.bin .neq (.t 11) (.t 13))] [14] [])
 (.cond (.t 14) (.seq (.a7 [Qb 4 false] [4] [])
 (.ret)) (.skip)))
 (.seq (.a7 [Qb 4 true] [4] [])
 (.ret))))
def aR.m:Fn:={np:=2,body:=aR.b,res:=[.tmp 4]}
def aR.k(M:Nat→Option Body):Prop:=M 347=some (.code aR.m)
def aB.l0:C:= .seq (.seq (.a7 [Qm 11 5,Qm 12 0,Q 13 (.len (.t 12)),Q 14 (.bin .lss (.t 11) (.t 13))] [0,1,5,14] [])
 (.cond (.t 14) (.skip) (.exit 0)))
 (.seq (.block 1 (.seq (.jZ [Qm 17 0,Qm 18 5,Qa 19 2 17 18,QL 20 2 19,Qm 21 1,Qm 22 5,Qa 23 2 21 22,QL 24 2 23,Q 25 (.call 347 [.t 20,.t 24] [] []),Q 26 (.not (.t 25))] [[],[],[0,1],[0,1,2],[],[],[4,5],[4,5,6],[0,1,2,3,4,5,6,7],[0,1,2,3,4,5,6,7,8]] [0,1,5,26] [])
 (.cond (.t 26) (.seq (.a7 [Qb 4 false] [4] [])
 (.ret)) (.skip))))
 (.a7 [Qm 15 5,Q 16 (.bin .add (.t 15) (kI 1)),Qm 5 16] [0,1,5] []))
def aB.b:C:= .seq (.a7 [Qb 4 false] [0,1] [])
 (.seq (.seq (.a7 [Qm 6 0,Q 7 (.len (.t 6)),Qm 8 1,Q 9 (.len (.t 8)),Q 10 (.bin .neq (.t 7) (.t 9))] [0,1,10] [])
 (.cond (.t 10) (.seq (.a7 [Qb 4 false] [4] [])
 (.ret)) (.skip)))
 (.seq (.seq (.a7 [Qi 5 0] [0,1,5] [])
 (.block 0 (.loop aB.l0)))
 (.seq (.a7 [Qb 4 true] [4] [])
 (.ret))))
def aB.m:Fn:={np:=2,body:=aB.b,res:=[.tmp 4]}
def aB.k(M:Nat→Option Body):Prop:=M 336=some (.code aB.m)∧aR.k M
def aw.l0:C:= .seq (.seq (.a7 [Qm 6 5,Qm 7 0,Q 8 (.len (.t 7)),Q 9 (.bin .lss (.t 6) (.t 8))] [0,1,5,9] [0])
 (.cond (.t 9) (.skip) (.exit 0)))
 (.seq (.block 1 (.seq (.a7 [Qm 12 0,Qm 13 5,Qm 14 1,Qa 15 2 12 13,Qf 16 0 15,Qs 1 16 14] [0,1,5] [0])
 (.seq (.a7 [Qm 17 1,Q 18 (.bin .add (.t 17) (kI 1)),Qm 1 18] [0,1,5] [0])
 (.seq (.a7 [Qm 19 0,Qm 20 5,Qm 21 1,Qa 22 2 19 20,Qf 23 1 22,Qs 1 23 21] [0,1,5] [0])
 (.a7 [Qm 24 1,Q 25 (.bin .add (.t 24) (kI 1)),Qm 1 25] [0,1,5] [0])))))
 (.a7 [Qm 10 5,Q 11 (.bin .add (.t 10) (kI 1)),Qm 5 11] [0,1,5] [0]))
def aw.b:C:= .seq (.a7 [Qi 4 0] [0,1] [0])
 (.seq (.seq (.a7 [Qi 5 0] [0,1,5] [0])
 (.block 0 (.loop aw.l0)))
 (.seq (.a7 [Qm 26 1,Qm 4 26] [4] [0])
 (.ret)))
def aw.m:Fn:={np:=2,body:=aw.b,res:=[.tmp 4]}
def aw.k(M:Nat→Option Body):Prop:=M 345=some (.code aw.m)
def ay.l0:C:= .seq (.seq (.a7 [Qm 6 5,Qm 7 0,Q 8 (.len (.t 7)),Q 9 (.bin .lss (.t 6) (.t 8))] [0,1,5,9] [])
 (.cond (.t 9) (.skip) (.exit 0)))
 (.seq (.block 1 (.seq (.seq (.a7 [Qm 12 0,Qm 13 5,Qa 14 2 12 13,Qf 15 0 14,Ql 16 15,Qm 17 1,Q 18 (.bin .neq (.t 16) (.t 17))] [0,1,5,18] [])
 (.cond (.t 18) (.seq (.a7 [Qi 4 (-1)] [4] [])
 (.ret)) (.skip)))
 (.seq (.a7 [Qm 19 1,Q 20 (.bin .add (.t 19) (kI 1)),Qm 1 20] [0,1,5] [])
 (.seq (.seq (.a7 [Qm 21 0,Qm 22 5,Qa 23 2 21 22,Qf 24 1 23,Ql 25 24,Qm 26 1,Q 27 (.bin .neq (.t 25) (.t 26))] [0,1,5,27] [])
 (.cond (.t 27) (.seq (.a7 [Qi 4 (-1)] [4] [])
 (.ret)) (.skip)))
 (.a7 [Qm 28 1,Q 29 (.bin .add (.t 28) (kI 1)),Qm 1 29] [0,1,5] [])))))
 (.a7 [Qm 10 5,Q 11 (.bin .add (.t 10) (kI 1)),Qm 5 11] [0,1,5] []))
def ay.b:C:= .seq (.a7 [Qi 4 0] [0,1] [])
 (.seq (.seq (.a7 [Qi 5 0] [0,1,5] [])
 (.block 0 (.loop ay.l0)))
 (.seq (.a7 [Qm 30 1,Qm 4 30] [4] [])
 (.ret)))
def ay.m:Fn:={np:=2,body:=ay.b,res:=[.tmp 4]}
def ay.k(M:Nat→Option Body):Prop:=M 555=some (.code ay.m)
def aq.b:C:= .seq (.a7 [Qb 2 false] [0] [])
 (.seq (.seq (.a7 [Qm 11 0,Q 12 (.dW (.t 11)),Q 13 (.bin .gtr (.t 12) (kI 1048576))] [0,13] [])
 (.cond (.t 13) (.seq (.a7 [Qb 2 true] [2] [])
 (.ret)) (.skip)))
 (.seq (.a7 [Qm 15 0,Q 16 (.call 322 [.t 15] [] []),Qm 14 16,Qx 17 0 14,Qx 18 1 14,Qm 3 17,Qm 4 18] [0,3,4] [])
 (.seq (.a7 [Qm 20 0,Q 21 (.call 530 [.t 20] [] [(0,12100)]),Qm 19 21,Qx 22 0 19,Qx 23 1 19,Qm 5 22,Qm 6 23] [0,3,4,5,6] [12100])
 (.seq (.seq (.a7 [Qm 24 5,Qm 25 3,Q 26 (.call 336 [.t 24,.t 25] [] []),Q 27 (.not (.t 26)),Qm 28 27,Qg 29 (.mv (.t 6)) 28 false,Qg 30 (.mv (.t 4)) 28 false,
   Qg 31 (.beq true (.t 29) (.t 30)) 28 false,Q 32 (.pick (.t 28) (kB true) (.t 31))] [0,3,4,5,32] [12100])
 (.cond (.t 32) (.seq (.a7 [Qb 2 false] [2] [])
 (.ret)) (.skip)))
 (.seq (.a7 [Qi 7 1] [0,3,4,5,7] [12100])
 (.seq (.a7 [Qm 33 5,Qm 34 7,Q 35 (.call 345 [.t 33,.t 34] [0] []),Qm 7 35] [0,3,4,5,7] [12100])
 (.seq (.a7 [Qi 8 1] [0,3,4,5,7,8] [12100])
 (.seq (.a7 [Qm 36 5,Qm 37 8,Q 38 (.call 555 [.t 36,.t 37] [] []),Qm 8 38] [0,3,4,5,7,8] [12100])
 (.seq (.seq (.a7 [Qm 39 8,Q 40 (.bin .lss (.t 39) (kI 0))] [0,3,4,5,7,8,40] [12100])
 (.cond (.t 40) (.seq (.a7 [Qb 2 false] [2] [])
 (.ret)) (.skip)))
 (.seq (.seq (.a7 [Qm 41 8,Qm 42 7,Q 43 (.bin .neq (.t 41) (.t 42))] [0,3,4,5,7,43] [12100])
 (.cond (.t 43) (.seq (.a7 [Qb 2 false] [2] [])
 (.ret)) (.skip)))
 (.seq (.a7 [Qm 45 0,Q 46 (.call 530 [.t 45] [] []),Qm 44 46,Qx 47 0 44,Qx 48 1 44,Qm 9 47,Qm 10 48] [3,4,5,7,9,10] [12100])
 (.seq (.seq (.a7 [Qm 49 9,Qm 50 3,Q 51 (.call 336 [.t 49,.t 50] [] []),Q 52 (.not (.t 51)),Qm 53 52,Qg 54 (.mv (.t 10)) 53 false,Qg 55 (.mv (.t 4)) 53 false,
   Qg 56 (.beq true (.t 54) (.t 55)) 53 false,Q 57 (.pick (.t 53) (kB true) (.t 56))] [5,7,57] [12100])
 (.cond (.t 57) (.seq (.a7 [Qb 2 false] [2] [])
 (.ret)) (.skip)))
 (.seq (.a7 [Qi 8 1] [5,7,8] [12100])
 (.seq (.a7 [Qm 58 5,Qm 59 8,Q 60 (.call 555 [.t 58,.t 59] [] []),Qm 8 60] [7,8] [])
 (.seq (.seq (.a7 [Qm 61 8,Q 62 (.bin .lss (.t 61) (kI 0))] [7,8,62] [])
 (.cond (.t 62) (.seq (.a7 [Qb 2 false] [2] [])
 (.ret)) (.skip)))
 (.seq (.seq (.a7 [Qm 63 8,Qm 64 7,Q 65 (.bin .neq (.t 63) (.t 64))] [65] [])
 (.cond (.t 65) (.seq (.a7 [Qb 2 false] [2] [])
 (.ret)) (.skip)))
 (.seq (.a7 [Qb 2 true] [2] [])
 (.ret))))))))))))))))))
def aq.m:Fn:={np:=1,body:=aq.b,res:=[.tmp 2]}
def aq.k(M:Nat→Option Body):Prop:=M 554=some (.code aq.m)∧aj.k M∧aB.k M∧aw.k M∧an.k M∧ay.k M
end Mx
namespace Mx
open Go Go.RowKit
def x0(F:Nat→FuncId)(w:World):Cx:={w:=w,U:=fun _=>False,E:=fun _=>none,F:=F}
theorem lg{P:Program}{F:Nat→FuncId}{M:Nat→Option Body}(hM:eo P F M){f:Nat}{as:List V}{b:Bool}(h:run M f as []=some (.c (.bool b),[])){vals:Array Value}{w:World}
  (hG:kv F (fun _=>False) w) (hn:as.length=vals.size) (hr:∀(i:Nat) (v:V) (x:Value),as[i]? =some v→vals[i]? =some x→bm (x0 F w) v x):
  Calls P (F f) vals w fun e W'=>e= .returned (.bool b)∧Below w.heap.size w W':=by
 obtain⟨_,hc⟩:=o7 hM f as [] _ _ h;have K:b9 (x0 F w) (cx F (fun _=>False) (fun _=>none) [] w):=by
  refine⟨rfl,fun v l h=>(by cases h),fun ad v _ hcell=>⟨hcell, ?_⟩⟩;rintro (⟨id,ob,cap,sz,g1,_⟩|h)
  ·simp[get] at g1
  ·exact h
 have En:Entry F (fun _=>False) (fun _=>none) as [] vals w:=
  ⟨hn,fun i v x h1 h2=>(hr i v x h1 h2).mono K,fun p ob h=>(by simp[get] at h),fun p ob b cap sz h=>(by simp[get] at h),fun p p2 ob ob2 b cap sz cap2 sz2 h=>(by simp[get] at h),fun v l h=>(by cases h),⟨fun b h=>h.elim,hG.imp id fun g=>⟨g.1,fun⟨p,ob,cap,sz,h1,_⟩=>by simp[get] at h1,g.2.2⟩⟩⟩
 refine(hc (fun _=>False) (fun _=>none) vals w En).mono ?_;rintro e w' ⟨val,E',own,rfl,B⟩;have hres:=B.res;have hv:val= .bool b:=by
  simp only[oU,iX] at hres;cases hres with|bool b=>rfl
 refine⟨by rw[hv],B.os,B.tape,B.output,B.size,fun k hk=>B.frame k hk ?_⟩;rintro ⟨p,ob,cap,sz,h1,_⟩;simp[get] at h1
end Mx
namespace Mx
open Go
inductive Ct where
 |int (k:IntKind)
 |bool
 |str
 |sl (row:List Ct)
inductive Has:Ct→T→Prop
 |int (k:IntKind) (n:Int) (h:(Lit.int k n).wf=true):Has (.int k) (.int k n)
 |bool (b:Bool):Has .bool (.bool b)
 |str (s:ByteArray) (h:s.size≤maxLen):Has .str (.str s)
 |sl (row:List Ct) (rows:List (List T)) (hl:rows.length≤maxLen) (h:∀(i:Nat) (r:List T),rows[i]? =some r→r.length=row.length)
   (h2:∀(i j:Nat) (r:List T) (c:Ct) (t:T),rows[i]? =some r→row[j]? =some c→r[j]? =some t→Has c t):Has (.sl row) (.sl false row.length rows)
def fV(cs:List Ct)(ts:List T):Prop:=ts.length=cs.length∧∀(j:Nat) (c:Ct) (t:T),cs[j]? =some c→ts[j]? =some t→Has c t
mutual
def iL(P:Program):Nat→Ct→TypeId→Bool
 |0,_,_=>false
 |_+1,.int k,t=>gH P t k
 |_+1,.bool,t=>gd P t
 |_+1,.str,t=>dZ P t
 |f+1,.sl row,t=>match aV P t with|some e=>gz P f row e&&(P.cellsOf e==row.length)|none=>false
def gz(P:Program):Nat→List Ct→TypeId→Bool
 |0,_,_=>false
 |f+1,cs,t=>match cW P t with
  |some fs=>(P.cellsOf t==cs.length)&&dm P f 0 cs fs.toList
  |none=>match cs with|[c]=>iL P f c t|_=>false
def dm(P:Program):Nat→Nat→List Ct→List Field→Bool
 |0,_,_,_=>false
 |_+1,_,cs,[]=>cs.isEmpty
 |f+1,off,cs,fd::fs=>(fd.offset==off)&&decide (P.cellsOf fd.type≤cs.length)&&gz P f (cs.take (P.cellsOf fd.type)) fd.type&&dm P f (off+P.cellsOf fd.type) (cs.drop (P.cellsOf fd.type)) fs
end
variable {P:Program} {F:Nat→FuncId} {w:World} {H:Type} {enc:TypeId×Value→H} {base:Nat} {sp:Nat→Bool} {held:Bool}
theorem fV.one{c:Ct}{t:T}(h:Has c t):fV [c] [t]:=⟨rfl,fun j c' t' h1 h2=>by
 cases j with
 |zero=>simp at h1 h2;subst h1 h2;exact h
 |succ j=>simp at h1⟩
theorem fV.append{cs ds:List Ct}{ts us:List T}(h:fV cs ts)(k:fV ds us):fV (cs++ds) (ts++us):=by
 refine⟨by simp[h.1,k.1],fun j c t h1 h2=> ?_⟩;rw[aF] at h1 h2;rw[h.1] at h2;split at h1
 ·rename_i hj;rw[if_pos hj] at h2;exact h.2 j c t h1 h2
 ·rename_i hj;rw[if_neg hj] at h2;exact k.2 _ c t h1 h2
theorem hI:∀(f:Nat),
  (∀(c:Ct) (t:TypeId) (vs:List Value) (fuel:Nat) (x:DataW H×List MemPlace),iL P f c t=true→DataW.trod enc P w base sp held fuel t vs=some x→∃u v,vs=[v]∧Has c u∧bc (x0 F w) u v)∧
  (∀(cs:List Ct) (t:TypeId) (vs:List Value) (fuel:Nat) (x:DataW H×List MemPlace),gz P f cs t=true→DataW.trod enc P w base sp held fuel t vs=some x→∃ts,fV cs ts∧aP (x0 F w) ts vs)∧
  (∀(off:Nat) (cs:List Ct) (fs:List Field) (vs:List Value),dm P f off cs fs=true→vs.length=off+cs.length→
   (∀fd∈fs,∃n x,DataW.trod enc P w base sp held n fd.type ((vs.drop fd.offset).take (P.cellsOf fd.type))=some (x:DataW H×List MemPlace))→∃ts,fV cs ts∧aP (x0 F w) ts (vs.drop off)):=by
 intro f
 induction f with
 |zero=>exact⟨fun c t vs fuel x h=>by simp[iL] at h,fun cs t vs fuel x h=>by simp[gz] at h,fun off cs fs vs h=>by simp[dm] at h⟩
 |succ f ih=>
  obtain⟨ih1,ih2,ih3⟩:=ih;have A:∀(c:Ct) (t:TypeId) (vs:List Value) (fuel:Nat) (x:DataW H×List MemPlace),iL P (f+1) c t=true→DataW.trod enc P w base sp held fuel t vs=some x→∃u v,vs=[v]∧Has c u∧bc (x0 F w) u v:=by
   intro c t vs fuel x hok h;cases fuel with
   |zero=>simp[DataW.trod] at h
   |succ n=>
    cases c with
    |int k=>
     have hu:=f_ hok;unfold DataW.trod at h;rw[hu] at h;split at h<;>simp_all
     rename_i k' m;obtain⟨⟨rfl,hwf⟩,_⟩:=h;exact⟨_,.int _ _ hwf,.int _ _⟩
    |bool=>
     have hu:=gI hok;unfold DataW.trod at h;rw[hu] at h;split at h<;>simp_all
     exact⟨_,.bool _,.bool _⟩
    |str=>
     have hu:=ei hok;unfold DataW.trod at h;rw[hu] at h;split at h<;>simp_all
     exact⟨_,.str _ h.1,.str _⟩
    |sl row=>
     simp only[iL] at hok;split at hok
     ·rename_i e he;simp only[ae,beq_iff_eq] at hok;rcases Go.Deep.open_slice (bh he) h with⟨rfl,_⟩|⟨a,len,cap,m,n',D,Pl,rfl,hb,hl,hm,hmm,_,hx⟩
      ·exact⟨.sl false row.length [],_,rfl,.sl row [] (by simp) (fun i r h=>by simp at h) (fun i j r c t h=>by simp at h),bc.empty _ _ _ _⟩
      ·have hlm:len≤m:=by rw[hmm];split<;>omega
       have each:∀i,i<len→∃r cs',fV row r∧aP (x0 F w) r cs'∧∀q,q<row.length→w.cell? ((a.add (i*row.length)).add q)=cs'[q]? :=by
        intro i hi;obtain⟨cs',h1,h2⟩:=hx i (by omega);obtain⟨r,h3,h4⟩:=ih2 row e cs' n' _ hok.1 h2;obtain⟨_,h5,h6⟩:=World.cells?_some h1;rw[hok.2] at h6;exact⟨r,cs',h3,h4,h6⟩
       have hrows:∀k,k≤len→∃rows:List (List T),rows.length=k∧∀i r,rows[i]? =some r→∃cs',fV row r∧aP (x0 F w) r cs'∧∀q,q<row.length→w.cell? ((a.add (i*row.length)).add q)=cs'[q]? :=by
        intro k
        induction k with
        |zero=>intro _;exact⟨[],rfl,fun i r h=>by simp at h⟩
        |succ k ihl=>
         intro hk;obtain⟨rows,h1,h2⟩:=ihl (by omega);obtain⟨r,cs',h3,h4,h5⟩:=each k (by omega);refine⟨rows++[r],by simp[h1],fun i r' hr=> ?_⟩;rw[aF] at hr;split at hr
         ·exact h2 i r' hr
         ·rename_i hge;have:i-rows.length=0:=by
           rcases Nat.eq_zero_or_pos (i-rows.length) with q|q
           ·exact q
           ·rw[bG (by simp;omega)] at hr;cases hr
          rw[this] at hr;simp at hr;subst hr;have:i=k:=by omega
          subst this;exact⟨cs',h3,h4,h5⟩
       obtain⟨rows,hlen,hrow⟩:=hrows len (Nat.le_refl _);have key:∀(i j:Nat) (r:List T) (t:T),rows[i]? =some r→r[j]? =some t→∃v,w.cell? (a.add (i*row.length+j))=some v∧bc (x0 F w) t v:=by
        intro i j r t hi hj;obtain⟨cs',h3,h4,h5⟩:=hrow i r hi;have hjl:j<r.length:=(List.getElem?_eq_some_iff.1 hj).1;have h6:=h5 j (by rw[←h3.1];exact hjl);have hjc:j<cs'.length:=by rw[←h4.1];exact hjl
        rw[add_add] at h6;refine⟨cs'[j],by rw[h6];simp[hjc],h4.2 j t cs'[j] hj (by simp[hjc])⟩
       have hcl:∀(c:Ct) (t:T),Has c t→aH t:=by
        intro c t h
        induction h with
        |int=>exact .int _ _
        |bool=>exact .bool _
        |str=>exact .str _
        |sl row rows hl h h2 ih=>
         refine .sl _ _ _ fun i j r t hr ht=> ?_
         have hj:j<row.length:=by rw[←h i r hr];exact(List.getElem?_eq_some_iff.1 ht).1
         exact ih i j r row[j] t hr (by simp[hj]) ht
       refine⟨.sl false row.length rows,_,rfl,.sl row rows (by omega) (fun i r hr=>(hrow i r hr).choose_spec.1.1) (fun i j r c t hr hc ht=>(hrow i r hr).choose_spec.1.2 j c t hc ht), ?_⟩;have:=bc.sl (X:=x0 F w) false row.length rows (some a) cap (fun i j=>(w.cell? (a.add (i*row.length+j))).getD undef) (by omega) (fun i r hr=>(hrow i r hr).choose_spec.1.1)
        (fun i j r t hr ht=>by obtain⟨v,h1,_⟩:=key i j r t hr ht;exact⟨a,rfl,fun h=>h,by show w.cell? _=_;rw[h1];rfl⟩)
        (fun i j r t hr ht=>by obtain⟨v,h1,h2⟩:=key i j r t hr ht;rw[h1];exact h2)
        (fun i j r t hr ht=>by
         obtain⟨cs',h3,_⟩:=hrow i r hr;have hj:j<row.length:=by rw[←h3.1];exact(List.getElem?_eq_some_iff.1 ht).1
         exact hcl _ _ (h3.2 j row[j] t (by simp[hj]) ht))
       rw[hlen] at this;exact this
     ·cases hok
  refine⟨A, ?_, ?_⟩
  ·intro cs t vs fuel x hok h;simp only[gz] at hok;split at hok
   ·rename_i fs hfs;simp only[ae,beq_iff_eq] at hok;obtain⟨xs,n,_,_,hlen,hxl,hxs⟩:=DataW.trod_struct (dg hfs) h;obtain⟨ts,h1,h2⟩:=ih3 0 cs fs.toList vs hok.2 (by omega) (fun fd hfd=>by
     obtain⟨i,hi⟩:=List.getElem?_of_mem hfd;have hi':fs[i]? =some fd:=by simpa using hi
     have:=hxs i fd hi';have hlt:i<xs.length:=by rw[hxl];exact(Array.getElem?_eq_some_iff.1 hi').1
     exact⟨n,xs[i],by rw[this];simp[hlt]⟩)
    exact⟨ts,h1,by simpa using h2⟩
   ·split at hok
    ·rename_i c;obtain⟨u,v,rfl,h1,h2⟩:=ih1 c t vs fuel x hok h;exact⟨[u],.one h1,.cons h2 (.nil _)⟩
    ·cases hok
  ·intro off cs fs vs hok hlen hfd;cases fs with
   |nil=>
    simp only[dm,List.isEmpty_iff] at hok;subst hok;refine⟨[],⟨rfl,fun j c t h=>by simp at h⟩, ?_⟩;rw[fW (by simp at hlen;omega)];exact .nil _
   |cons fd fs=>
    simp only[dm,ae,beq_iff_eq,decide_eq_true_eq] at hok;obtain⟨⟨⟨h1,hk⟩,h2⟩,h3⟩:=hok;obtain⟨n,x,hx⟩:=hfd fd (bd ..);obtain⟨ts1,k1,k2⟩:=ih2 _ _ _ _ _ h2 hx;have hl1:=k1.1;have hl2:=k2.1;rw[h1] at k2 hl2;obtain⟨ts2,m1,m2⟩:=ih3 (off+P.cellsOf fd.type) (cs.drop (P.cellsOf fd.type)) fs vs h3 (by simp;omega) (fun fd' h=>hfd fd' (aU _ h));refine⟨ts1++ts2, ?_, ?_⟩
    ·have:=k1.append m1
     rwa [df] at this
    ·have:=k2.append m2;rw[←List.drop_drop,df] at this;exact this
theorem kp{f:Nat}{cs:List Ct}{t:TypeId}{fs:Array Field}{v:Value}{d:DataW H}{ps:List MemPlace}{r:Reach}{b:Nat}{w':World}(hs:cW P t=some fs)(hok:gz P f cs t=true)
  (hv:Value.okWide P w' r b t v) (h:DataW.Trod enc P w base sp held t v d ps):∃ts,fV cs ts∧bm (x0 F w) (.a ts) v:=by
 obtain⟨fuel,h⟩:=h;obtain⟨ts,h1,h2⟩:=(hI (F:=F) f).2.1 cs t _ fuel _ hok h;unfold Value.okWide at hv;rw[dg hs] at hv;obtain⟨vs,rfl,_⟩:=hv;refine⟨ts,h1, ?_⟩;have:=bm.po h2;simpa [Value.cells] using this
theorem lH{v u:Value}(h:v.cells.toList=[u])(hn:∀cs,v≠.agg cs):v=u:=by
 cases v with
 |agg cs=>exact(hn cs rfl).elim
 |_=>simp[Value.cells] at h;exact h
theorem na{f:Nat}{c:Ct}{t:TypeId}{v:Value}{d:DataW H}{ps:List MemPlace}{r:Reach}{b:Nat}{w':World}(hok:iL P f c t=true)
  (hv:Value.okWide P w' r b t v) (h:DataW.Trod enc P w base sp held t v d ps):∃u,Has c u∧bc (x0 F w) u v:=by
 obtain⟨fuel,h⟩:=h;obtain⟨u,x,h0,h1,h2⟩:=(hI (F:=F) f).1 c t _ fuel _ hok h;have:v=x:=by
  refine lH h0 fun cs e=> ?_
  subst e;cases f with
  |zero=>simp[iL] at hok
  |succ f=>
   cases c with
   |int k=>simp[Value.okWide,Cell.okWide,f_ hok,Cell.ok] at hv
   |bool=>simp[Value.okWide,Cell.okWide,gI hok,Cell.ok] at hv
   |str=>simp[Value.okWide,Cell.okWide,ei hok,Cell.ok] at hv
   |sl row=>
    simp only[iL] at hok;split at hok
    ·rename_i e he;simp[Value.okWide,Cell.okWide,bh he,Cell.ok] at hv
    ·cases hok
 rw[this];exact⟨u,h1,h2⟩
end Mx
namespace Mx
open Go Go.RowKit Go.ChangeShapes
inductive Ak where
 |cell (c:Ct)
 |struct (cs:List Ct)
inductive oV:Ak→V→Prop
 |cell {c:Ct} {u:T} (h:Has c u):oV (.cell c) (.c u)
 |struct {cs:List Ct} {ts:List T} (h:fV cs ts):oV (.struct cs) (.a ts)
inductive iA:List Ak→List V→Prop
 |nil:iA [] []
 |cons {k:Ak} {v:V} {ks:List Ak} {vs:List V} (h:oV k v) (hs:iA ks vs):iA (k::ks) (v::vs)
def jm(P:Program)(f:Nat):Ak→TypeId→Bool
 | .cell c,t=>iL P f c t&&P.readableRec t&&decide (t<P.types.size)
 | .struct cs,t=>(cW P t).isSome&&gz P f cs t&&P.readableRec t&&decide (t<P.types.size)
def ft(P:Program)(f:Nat):List Ak→List TypeId→Bool
 |[],[]=>true
 |k::ks,t::ts=>jm P f k t&&ft P f ks ts
 |_,_=>false
variable {P:Program} {F:Nat→FuncId} {w:World} {H:Type} {enc:TypeId×Value→H}
theorem j6{f:Nat}{k:Ak}{t:TypeId}(h:jm P f k t=true):P.readableRec t=true∧t<P.types.size:=by
 cases k<;>simp only[jm,ae,decide_eq_true_eq] at h
 ·exact⟨h.1.2,h.2⟩
 ·exact⟨h.1.2,h.2⟩
theorem km{f:Nat}{w':World}{r:Reach}{b:Nat}{base:Nat}{sp:Nat→Bool}{held:Bool}:∀(ks:List Ak) (ts:List TypeId) (vs:List Value) (ds:List (DataW H)) (ps:List MemPlace),ft P f ks ts=true→
  DataW.TrodAll enc P w base sp held ts vs ds ps→(∀(j:Nat) t v,ts[j]? =some t→vs[j]? =some v→Value.okWide P w' r b t v)→
  ∃as,iA ks as∧as.length=vs.length∧ds.length=ks.length∧∀(i:Nat) (v:V) (x:Value),as[i]? =some v→vs[i]? =some x→bm (x0 F w) v x:=by
 intro ks
 induction ks with
 |nil=>
  intro ts vs ds ps hok h _;cases ts with
  |cons=>cases hok
  |nil=>
   obtain⟨rfl,rfl,_⟩:=trodAll_nil h;exact⟨[],.nil,rfl,rfl,fun i v x h=>by simp at h⟩
 |cons k ks ih=>
  intro ts vs ds ps hok h hv;cases ts with
  |nil=>cases hok
  |cons t ts=>
   simp only[ft,ae] at hok;obtain⟨v,vs',d,ds',p,q,rfl,rfl,rfl,h1,h2⟩:=trodAll_cons h;obtain⟨as,g1,g2,g3,g4⟩:=ih ts vs' ds' q hok.2 h2 (fun j t v h1 h2=>hv (j+1) t v (by simpa using h1) (by simpa using h2));have hv0:=hv 0 t v rfl rfl;have hk:∃a,oV k a∧bm (x0 F w) a v:=by
    cases k with
    |cell c=>
     have ho:=hok.1;simp only[jm,ae] at ho;obtain⟨u,k1,k2⟩:=na (F:=F) ho.1.1 hv0 h1;exact⟨.c u,.cell k1,.c _ _ k2⟩
    |struct cs=>
     have ho:=hok.1;simp only[jm,ae] at ho;obtain⟨fs,hfs⟩:=Option.isSome_iff_exists.1 ho.1.1.1;obtain⟨ts',k1,k2⟩:=kp (F:=F) hfs ho.1.1.2 hv0 h1;exact⟨.a ts',.struct k1,k2⟩
   obtain⟨a,k1,k2⟩:=hk;refine⟨a::as,.cons k1 g1,by simp[g2],by simp[g3],fun i v' x h1 h2=> ?_⟩;cases i with
   |zero=>simp at h1 h2;subst h1 h2;exact k2
   |succ i=>exact g4 i v' x (by simpa using h1) (by simpa using h2)
theorem jR{f:Nat}(hl:laidOutB P=true){W':World}(hb:Below w.heap.size w W'):∀(ks:List Ak) (ts:List TypeId) (vs:List Value) (ds:List (DataW H)) (ps:List MemPlace),ft P f ks ts=true→
  DataW.TrodAll enc P w 0 (fun _=>true) true ts vs ds ps→(∀x∈ps,x.block<w.heap.size)→DataW.TrodAll enc P W' 0 (fun b=>decide (b<w.heap.size)) true ts vs ds ps:=by
 intro ks
 induction ks with
 |nil=>
  intro ts vs ds ps hok h _;cases ts with
  |cons=>cases hok
  |nil=>
   obtain⟨rfl,rfl,rfl⟩:=trodAll_nil h;exact trodAll_mk0
 |cons k ks ih=>
  intro ts vs ds ps hok h hlt;cases ts with
  |nil=>cases hok
  |cons t ts=>
   simp only[ft,ae] at hok;obtain⟨v,vs',d,ds',p,q,rfl,rfl,rfl,h1,h2⟩:=trodAll_cons h;obtain⟨r1,r2⟩:=j6 hok.1;exact trodAll_cons_mk (Below.trod hl r1 r2 h1 hb (fun x hx=>hlt x (List.mem_append_left _ hx))) (ih ts vs' ds' q hok.2 h2 (fun x hx=>hlt x (List.mem_append_right _ hx)))
def pX(num:List (Nat×Nat))(f:Nat):FuncId:=(get num f).getD 0
end Mx
namespace Mx
open Go
variable {M:Nat→Option Body}
theorem aT.db(h:aT.k M)(n a b:Int):run M 101 [.c (I n),.c (I a),.c (I b)] []=some (.c (.bool (decide (a≤n)&&decide (n≤b))),[]):=by
 refine bE (b:=aT.m) h ⟨0, ?_⟩;by_cases h:a≤n
 ·have h':n≥a:=h;simp[eR,aT.m,aT.b,dS,h]
 ·have h':¬n≥a:=h;simp[eR,aT.m,aT.b,dS,h]
structure Range where
 a:Int
 b:Int
def bl(r:Range):List T:=[I r.a,I r.b]
def rows(l:List Range):List (List T):=l.map bl
abbrev dX(l:List Range):T:= .sl false 2 (rows l)
theorem aR.db(h:aR.k M)(r:Range):run M 347 [.a (bl r),.a (bl r)] []=some (.c (.bool true),[]):=by
 refine bE (b:=aR.m) h ⟨0, ?_⟩;simp[eR,aR.m,aR.b,dS,bl]
theorem dh(l:List Range):(rows l).length=l.length:=by simp[rows]
theorem kC(l:List Range)(i:Nat)(h:i<(rows l).length):(rows l)[i]=bl (l[i]'(by simpa [rows] using h)):=by simp[rows]
def px(l:List Range)(i:Nat)(x:Nat):St:={t:=[(0,.c (dX l)),(1,.c (dX l)),(5,.c (I i))],o:=[],n:=x}
theorem aB.round(h:aR.k M)(k:Nat)(l:List Range)(hl:l.length≤1048576)(i:Nat)(hi:i<l.length)(x:Nat):∃y,bp (run M) k aB.l0 (px l i x)=some (.normal,px l (i+1) y):=by
 have e5:=eS (i:=i) (by omega);have h2:=aR.db h l[i];simp only[bl] at h2;simp[px,aB.l0,hi,h2,dX,dh,kC,bl,e5]
theorem aB.db(h:aB.k M)(l:List Range)(hl:l.length≤1048576):run M 336 [.c (dX l),.c (dX l)] []=some (.c (.bool true),[]):=by
 refine bE (b:=aB.m) h.1 ⟨l.length+1, ?_⟩;obtain⟨r,hr,m,hp⟩:=mw (f:=bp (run M) (l.length+1) aB.l0) (px l) (fun r=>∃m,r=(.exit 0,{t:=[(0,.c (dX l)),(1,.c (dX l)),(5,.c (I l.length)),(14,.c (.bool false))],o:=[],n:=m})) l.length
  (fun i hi x=>aB.round h.2 _ l hl i hi x)
  (by intro x;simp[px,aB.l0,dX,dh])
  (l.length+1) (by omega) 2000112
 subst hp;simp[px,dX] at hr;simp[eR,aB.m,aB.b,dS,dX,dh,hr]
def hit(n last:Int)(r:Range):Bool:=
 let a:=if r.a=0 then last else r.a
 let b:=if r.b=0 then last else r.b
 if b<a then decide (b≤n)&&decide (n≤a) else decide (a≤n)&&decide (n≤b)
def eu(l:List Int):List (List T):=l.map fun n=>[I n]
theorem mG(l:List Int):(eu l).length=l.length:=by simp[eu]
theorem oc(l:List Int)(i:Nat)(h:i<(eu l).length):(eu l)[i]=[I (l[i]'(by simpa [eu] using h))]:=by simp[eu]
theorem js(a b:List Int):eu a++eu b=eu (a++b):=by simp[eu]
theorem mF:eu []=[]:=rfl
theorem lx(l:List Int)(n:Nat):(eu l).take n=eu (l.take n):=by simp[eu]
attribute [simp] mG oc js mF lx
def upto(k:Int):Nat→List Int
 |0=>[]
 |n+1=>upto k n++[k+n]
theorem l4(k:Int)(n:Nat):(upto k n).length=n:=by
 induction n with
 |zero=>rfl
 |succ n ih=>simp[upto,ih]
attribute [simp] l4
theorem nV{α:Type}(a:List α)(x:α)(b:List α)(n:Nat)(h:a.length=n)(y:α):(a++x::b).set n y=a++y::b:=by
 subst h;simp
theorem pf{α:Type}(a:List α)(x:α)(b:List α)(n:Nat)(h:a.length=n):(a++x::b)[n]? =some x:=by
 subst h;simp
theorem ly(l:List Int):(eu l).all (fun r=>r.all T.scalar)=true:=by
 simp only[eu,List.all_map,ao];intro n _;rfl
attribute [simp] ly
def aQ(k:Int):Nat→List Range
 |0=>[]
 |n+1=>aQ k n++[⟨k+2*n,k+2*n+1⟩]
theorem c_(k:Int)(n:Nat):(aQ k n).length=n:=by
 induction n with
 |zero=>rfl
 |succ n ih=>simp[aQ,ih]
theorem lf(l:List Range):(rows l).all (fun r=>r.all T.scalar)=true:=by
 simp only[rows,List.all_map,ao];intro n _;rfl
def pv(k:Int)(l:List Range)(i:Nat)(x:Nat):St:={t:=[(0,.c (.row 0 0 0 l.length)),(1,.c (I (k+2*i))),(5,.c (I i))],o:=[(0,⟨0,2,true,false,rows (aQ k i++l.drop i)⟩)],n:=x}
theorem aw.db(h:aw.k M)(l:List Range)(k:Int)(hk: -9223372036854775808≤k)(hl:k+2*l.length≤9223372036854775807)(hl2:l.length≤4611686018427387904):
  run M 345 [.c (.row 0 0 0 l.length),.c (I k)] [(0,⟨0,2,true,false,rows l⟩)]=some (.c (I (k+2*l.length)),[(0,⟨0,2,true,false,rows (aQ k l.length)⟩)]):=by
 refine bE (b:=aw.m) h ⟨l.length+1, ?_⟩;obtain⟨g,hr⟩:=jo (f:=bp (run M) (l.length+1) aw.l0) (pv k l) (fun i=>i≤l.length) (fun i=>l.length-i) (fun _=>())
  (fun _ m=>(.exit 0,{t:=[(0,.c (.row 0 0 0 l.length)),(1,.c (I (k+2*l.length))),(5,.c (I l.length)),(9,.c (.bool false))],o:=[(0,⟨0,2,true,false,rows (aQ k l.length)⟩)],n:=m}))
  (by
   intro i x hi;by_cases hlt:i<l.length
   ·have e5:=eS (i:=i) (by omega);have e6:IntKind.i64.wrap (k+2*(i:Int)+1)=k+2*(i:Int)+1:=wrap_i64 (by omega) (by omega);have e6':IntKind.i64.wrap (k+2*(i:Int)+1+1)=k+2*((i:Int)+1):=by rw[wrap_i64 (by omega) (by omega)];omega
    have e8:i+(l.length-i)=l.length:=by omega
    have hml:(aQ k i).length=i:=c_ k i;have hd:=aW hlt;have e9:i<(rows (aQ k i++l.drop i)).length:=by simp[dh,hml];omega
    have h3:(rows (aQ k i++l.drop i))[i]? =some (bl l[i]):=by
     rw[hd];simp only[rows,bN,aI];exact pf _ _ _ _ (by simp[hml])
    have h3':∀h,(rows (aQ k i++l.drop i))[i]'h=[I l[i].a,I l[i].b]:=fun h=>by rw[cF h] at h3;exact Option.some.inj h3
    have h4:((rows (aQ k i++l.drop i)).set i [I (k+2*i),I (k+2*i+1)])=rows (aQ k (i+1)++l.drop (i+1)):=by
     rw[hd];simp only[rows,bN,aI,aQ,ba,List.cons_append,nL,bC];exact nV _ _ _ _ (by simp[hml]) _
    obtain⟨y,hy⟩:∃y,bp (run M) (l.length+1) aw.l0 (pv k l i x)=some (.normal,pv k l (i+1) y):=by
     simp[pv,aw.l0,hlt,e5,e6,e6',e8,e9,dh,hml,h3',h4,setAt]
    exact .inl ⟨i+1,y,hy,hlt,by omega,rfl⟩
   ·have:i=l.length:=by omega
    subst this;exact .inr ⟨x+64,by simp[pv,aw.l0],by simp⟩)
  (l.length+1) 0 (Nat.zero_le _) (by omega)
 simp[pv,aQ] at hr;simp[eR,aw.m,aw.b,dS,hr]
def bad(b:UInt8):Bool:=decide (b<32)||decide (126<b)
def qe(d:Nat):UInt8:=UInt8.ofNat (48+d)
def pH(m:Nat)(acc:List UInt8):List UInt8:=if m=0 then acc else pH (m/10) (qe (m%10)::acc)
termination_by m
decreasing_by omega
structure Token where
 kind:Int
 text:List UInt8
end Mx
namespace Mx
open Go
def pz:T→Option Value
 | .int k n=>some (.int k n)
 | .bool b=>some (.bool b)
 | .str s=>some (.string s)
 |_=>none
variable {P:Program} {F:Nat→FuncId}
theorem eX{X:Cx}{t:T}{v x:Value}(h:bm X (.c t) x)(hv:pz t=some v):x=v:=by
 cases h with|c _ _ h=>
 cases t<;>simp[pz] at hv<;>subst hv<;>cases h<;>rfl
end Mx
namespace Mx
open Go
def jc.g:List T→Option T
 |[.str s,.int .i32 r]=>if 0≤r∧r<128 then some (.bool (decide (0≤Lib.indexByte s.data.toList r.toNat.toUInt8))) else none
 |_=>none
abbrev oT:=Token×Nat×Int
def iD:oT:=(⟨0,[]⟩,0,1)
def l6:oT:=(⟨0,[]⟩,0,2)
def aO(b:UInt8):Bool:=decide (48≤b)&&decide (b≤57)
def pJ:List UInt8→Nat×Nat
 |[]=>(0,1)
 |[a]=>if aO a then(a.toNat-48,2) else(0,1)
 |a::b::_=>if aO a then(if aO b then(10*(a.toNat-48)+(b.toNat-48),3) else(a.toNat-48,2)) else(0,1)
def qb:List UInt8:=[125,13,10]
def pI(l:List UInt8)(n i:Nat):oT:=
 if l.drop i=[]∧n≤60 then iD else if i=1∨60<n then l6 else
 if(l.drop i).length<3∧l.drop i=qb.take (l.drop i).length then iD else
 if(l.drop i).take 3≠qb then l6 else if(l.drop i).length<3+n then iD else(⟨2,(l.drop (i+3)).take n⟩,i+3+n,0)
def pR(l:List UInt8):oT:=pI l (pJ (l.drop 1)).1 (pJ (l.drop 1)).2
def val:List UInt8→Nat→Nat
 |[],n=>n
 |d::l,n=>val l (10*n+(d.toNat-48))
def aX(s:List UInt8):Nat×Bool:=if s=[42] then(0,true) else if s.length≤4∧s.all aO=true∧s≠[]∧0<val s 0 then(val s 0,true) else(0,false)
def cG(r:List UInt8):Option (Nat×List UInt8):=
 if r.head? =some 42 then some (0,r.drop 1) else
 if(r.takeWhile aO).take 4≠[]∧0<val ((r.takeWhile aO).take 4) 0 then some (val ((r.takeWhile aO).take 4) 0,r.drop ((r.takeWhile aO).take 4).length) else none
def cv(r:List UInt8):Option (Range×List UInt8):=
 match cG r with
 |none=>none
 |some (a,r1)=>if r1.head? =some 58 then(match cG (r1.drop 1) with|none=>none|some (b,r2)=>some (⟨a,b⟩,r2)) else some (⟨a,a⟩,r1)
def bJ(p:List UInt8):List UInt8×List UInt8×Bool:=if(58:UInt8)∈p then(p.takeWhile (·≠58),p.drop ((p.takeWhile (·≠58)).length+1),true) else(p,[],false)
def eH(p:List UInt8):List UInt8:=if(bJ p).2.2=true then(bJ p).2.1 else(bJ p).1
def cY(p:List UInt8):Option Range:=if(aX (bJ p).1).2=true∧(aX (eH p)).2=true then some ⟨(aX (bJ p).1).1,(aX (eH p)).1⟩ else none
def dD(t:List UInt8):Prop:=t=[]∨∃c r,t=c::r∧(c=44∨c=58)
theorem jd{t:List UInt8}(h:dD t):t.takeWhile aO=[]∧¬t.head? =some 42:=by
 rcases h with rfl|⟨c,r,rfl,rfl|rfl⟩
 ·simp
 ·simp[aO]
 ·simp[aO]
theorem fk{s t:List UInt8}(h:dD t):(s++t).takeWhile aO=s.takeWhile aO:=by
 induction s with
 |nil=>simp[(jd h).1]
 |cons b s ih=>
  simp only[List.cons_append,List.takeWhile_cons,ih]
theorem iM{s t:List UInt8}(h:dD t)(hs:(aX s).2=true):cG (s++t)=some ((aX s).1,t):=by
 unfold aX at hs ⊢;split at hs
 ·rename_i c;subst c;simp[cG]
 ·split at hs
  ·rename_i c1 c;obtain⟨c2,c3,c4,c5⟩:=c;rw[if_neg c1,if_pos ⟨c2,c3,c4,c5⟩];have hall:s.takeWhile aO=s:=by
    have:=List.takeWhile_append_of_pos (p:=aO) (l₁:=s) (l₂:=[]) (fun b hb=>List.all_eq_true.1 c3 b hb);simpa using this
   have h42:¬(s++t).head? =some 42:=by
    cases s with
    |nil=>exact(c4 rfl).elim
    |cons b s=>
     simp only[List.cons_append,List.head?_cons,af];rintro rfl;simp[aO] at c3
   have ht:(s.takeWhile aO).take 4=s:=by rw[hall];exact ab c2
   unfold cG;rw[if_neg h42,fk h,ht,if_pos ⟨c4,c5⟩,List.drop_left]
  ·cases hs
theorem j7{s t:List UInt8}(h:dD t)(hs:(aX s).2=false):cG (s++t)=none∨∃n c r,cG (s++t)=some (n,c::r)∧c∈s:=by
 by_cases h42:(s++t).head? =some 42
 ·cases s with
  |nil=>exact((jd h).2 h42).elim
  |cons b s=>
   simp only[List.cons_append,List.head?_cons,af] at h42;subst h42;cases s with
   |nil=>simp[aX] at hs
   |cons c s=>exact .inr ⟨0,c,s++t,by simp[cG],by simp⟩
 ·by_cases c:(s.takeWhile aO).take 4≠[]∧0<val ((s.takeWhile aO).take 4) 0
  ·right;obtain⟨d,hd⟩:∃d,d=(s.takeWhile aO).take 4:=⟨_,rfl⟩
   rw[←hd] at c;have hpre:d<+:s:=by rw[hd];exact(List.take_prefix _ _).trans (List.takeWhile_prefix _)
   obtain⟨u,hu⟩:=hpre;have hn:cG (s++t)=some (val d 0,u++t):=by
    unfold cG;rw[if_neg h42,fk h,←hd,if_pos c];rw[show s++t=d++(u++t) by rw[←ba,hu],List.drop_left]
   cases u with
   |nil=>
    exfalso;rw[gk] at hu;have h4:d.length≤4:=by rw[hd,dA];omega
    have hall:s.all aO=true:=by
     rw[←hu,ao];intro b hb;rw[hd] at hb;have:=List.mem_of_mem_take hb;have h2:=List.all_takeWhile (p:=aO) (l:=s);rw[ao] at h2;exact h2 b this
    have:aX s=(val s 0,true):=by
     unfold aX;split
     ·rename_i e;rw[e] at hall;simp[aO] at hall
     ·rw[if_pos ⟨by rw[←hu];exact h4,hall,by rw[←hu];exact c.1,by rw[←hu];exact c.2⟩]
    rw[this] at hs;cases hs
   |cons b u=>exact⟨_,b,u++t,hn,by rw[←hu];simp⟩
  ·left;unfold cG;rw[if_neg h42,fk h,if_neg c]
def mY(t:List UInt8):Prop:=t=[]∨∃r,t=44::r
theorem mY.stop{t:List UInt8}(h:mY t):dD t:=by
 rcases h with h|⟨r,h⟩
 ·exact .inl h
 ·exact .inr ⟨44,r,h,.inl rfl⟩
theorem iS{p:List UInt8}(h:(58:UInt8)∈p):p=(bJ p).1++58::(bJ p).2.1∧¬(58:UInt8)∈(bJ p).1∧(bJ p).2.2=true:=by
 unfold bJ;rw[if_pos h];refine⟨?_, ?_,rfl⟩
 ·induction p with
  |nil=>cases h
  |cons b p ih=>
   by_cases c:b=58
   ·subst c;simp
   ·have hb:decide (b≠58)=true:=by simpa using c
    have:=ih (by rcases List.mem_cons.1 h with e|e;·exact(c e.symm).elim
                 ·exact e)
    simp only[List.takeWhile_cons,hb,if_true,al,List.drop_succ_cons,List.cons_append];rw[←this]
 ·intro hm;have:=List.all_takeWhile (p:=fun b:UInt8=>decide (b≠58)) (l:=p);rw[ao] at this;have:=this _ hm;simp at this
theorem n9{p t:List UInt8}(h:mY t){r:Range}(hp:cY p=some r):cv (p++t)=some (r,t):=by
 unfold cY at hp;split at hp
 ·rename_i c;cases hp;obtain⟨c1,c2⟩:=c;by_cases hc:(58:UInt8)∈p
  ·obtain⟨e,_,e2⟩:=iS hc;have es:eH p=(bJ p).2.1:=by unfold eH;rw[if_pos e2]
   rw[es] at c2 ⊢;have hs:dD (58::((bJ p).2.1++t)):= .inr ⟨58,_,rfl,.inr rfl⟩;have h1:=iM hs c1;have h2:=iM h.stop c2;unfold cv;rw[show p++t=(bJ p).1++58::((bJ p).2.1++t) by rw[←List.cons_append,←ba,←e],h1];simp only[List.head?_cons,if_true,List.drop_succ_cons,List.drop_zero,h2]
  ·have e:bJ p=(p,[],false):=by unfold bJ;rw[if_neg hc]
   have es:eH p=p:=by unfold eH;rw[e];rfl
   rw[e] at c1;rw[es,e];have h1:=iM h.stop c1;unfold cv;simp only at h1 ⊢;rw[h1];have:¬t.head? =some 58:=by rcases h with rfl|⟨r,rfl⟩<;>simp
   simp only[this,if_false]
 ·cases hp
theorem n_{p t:List UInt8}(hc44:¬(44:UInt8)∈p)(h:mY t)(hp:cY p=none):cv (p++t)=none∨∃r c u,cv (p++t)=some (r,c::u)∧c≠44:=by
 have ht58:¬t.head? =some 58:=by rcases h with rfl|⟨r,rfl⟩<;>simp
 unfold cY at hp;split at hp
 ·cases hp
 ·rename_i c;by_cases hc:(58:UInt8)∈p
  ·obtain⟨e,e1,e2⟩:=iS hc;have es:eH p=(bJ p).2.1:=by unfold eH;rw[if_pos e2]
   rw[es] at c;have hs:dD (58::((bJ p).2.1++t)):= .inr ⟨58,_,rfl,.inr rfl⟩;have ep:p++t=(bJ p).1++58::((bJ p).2.1++t):=by rw[←List.cons_append,←ba,←e]
   cases f1:(aX (bJ p).1).2 with
   |false=>
    rcases j7 hs f1 with q|⟨n,x,r,q,hx⟩
    ·left;unfold cv;rw[ep,q]
    ·right;have hx58:¬x=58:=fun z=>e1 (z▸hx)
     refine⟨⟨n,n⟩,x,r, ?_,fun z=>hc44 (by rw[e];exact List.mem_append_left _ (z▸hx))⟩;unfold cv;rw[ep,q];simp[hx58]
   |true=>
    have f2:(aX (bJ p).2.1).2=false:=by
     cases z:(aX (bJ p).2.1).2 with
     |false=>rfl
     |true=>exact(c ⟨f1,z⟩).elim
    have h1:=iM hs f1;rcases j7 h.stop f2 with q|⟨n,x,r,q,hx⟩
    ·left;unfold cv;rw[ep,h1];simp[q]
    ·right;refine⟨⟨(aX (bJ p).1).1,n⟩,x,r, ?_,fun z=>hc44 (by rw[e];exact List.mem_append_right _ (aU _ (z▸hx)))⟩;unfold cv;rw[ep,h1];simp[q]
  ·have e:bJ p=(p,[],false):=by unfold bJ;rw[if_neg hc]
   have es:eH p=p:=by unfold eH;rw[e];rfl
   rw[es,e] at c;simp only[and_self,Bool.not_eq_true] at c;rcases j7 h.stop c with q|⟨n,x,r,q,hx⟩
   ·left;unfold cv;rw[q]
   ·right;have hx58:¬x=58:=fun z=>hc (z▸hx)
    refine⟨⟨n,n⟩,x,r, ?_,fun z=>hc44 (z▸hx)⟩;unfold cv;rw[q];simp[hx58]
def pieces:List UInt8→List (List UInt8)
 |[]=>[[]]
 |b::r=>if b=44 then []::pieces r else match pieces r with|[]=>[[b]]|p::ps=>(b::p)::ps
theorem ll(l:List UInt8):pieces l≠[]:=by
 cases l with
 |nil=>simp[pieces]
 |cons b r=>simp only[pieces];split;·simp
            split<;>simp
theorem dY:∀r:List UInt8,∃p t,r=p++t∧¬(44:UInt8)∈p∧((t=[]∧pieces r=[p])∨∃r',t=44::r'∧pieces r=p::pieces r')
 |[]=>⟨[],[],rfl,by simp,.inl ⟨rfl,rfl⟩⟩
 |b::r=>by
  by_cases c:b=44
  ·exact⟨[],b::r,rfl,by simp,.inr ⟨r,by rw[c],by simp[pieces,c]⟩⟩
  ·obtain⟨p,t,h1,h2,h3⟩:=dY r;have hc:¬(44:UInt8)=b:=fun e=>c e.symm
   refine⟨b::p,t,by rw[h1];rfl,by simp[hc,h2], ?_⟩;rcases h3 with⟨h3,h4⟩|⟨r',h3,h4⟩
   ·exact .inl ⟨h3,by simp[pieces,c,h4]⟩
   ·exact .inr ⟨r',h3,by simp[pieces,c,h4]⟩
def cz:List (List UInt8)→List Range→List Range×Bool
 |[],acc=>(acc,true)
 |p::ps,acc=>match cY p with
  |none=>([],false)
  |some r=>if acc.length=8 then([],false) else cz ps (acc++[r])
def cy(l:List UInt8):List Range×Bool:=cz (pieces l) []
def fM:Nat→List UInt8→List Range→List Range×Bool
 |0,_,_=>([],false)
 |d+1,r,acc=>match cv r with
  |none=>([],false)
  |some (x,r1)=>if 8<acc.length+1 then([],false) else if r1=[] then(acc++[x],true) else if r1.head? ≠some 44 then([],false) else fM d (r1.drop 1) (acc++[x])
theorem kQ:∀(d:Nat) (r:List UInt8) (acc:List Range),r.length<d→acc.length≤8→fM d r acc=cz (pieces r) acc
 |0,r,acc,h,_=>by omega
 |d+1,r,acc,h,ha=>by
  obtain⟨p,t,h1,h2,h3⟩:=dY r;have het:mY t:=by
   rcases h3 with⟨h3,_⟩|⟨r',h3,_⟩
   ·exact .inl h3
   ·exact .inr ⟨r',h3⟩
  cases hp:cY p with
  |none=>
   have hset:cz (pieces r) acc=([],false):=by
    rcases h3 with⟨_,h4⟩|⟨r',_,h4⟩<;>rw[h4,cz,hp]
   rw[hset,fM,h1];rcases n_ h2 het hp with q|⟨x,c,u,q,hc⟩
   ·rw[q]
   ·rw[q];simp only;split;·rfl
    rw[if_neg (by simp),if_pos (by simpa using hc)]
  |some x=>
   have q:=n9 het hp;rw[fM,h1,q];simp only;by_cases c8:acc.length=8
   ·rw[if_pos (by omega),←h1];rcases h3 with⟨_,h4⟩|⟨r',_,h4⟩<;>rw[h4,cz,hp]<;>simp[c8]
   ·rw[if_neg (by omega),←h1];rcases h3 with⟨h3,h4⟩|⟨r',h3,h4⟩
    ·rw[if_pos h3,h4,cz,hp];simp[c8,cz]
    ·rw[h3,if_neg (by simp),if_neg (by simp),h4,cz,hp];simp only[if_neg c8,List.drop_succ_cons,List.drop_zero];refine kQ d r' _ ?_ (by simp;omega);rw[h1,h3] at h;simp at h;omega
theorem index_one(c:UInt8):∀l:List UInt8,Lib.index l [c]=if c∈l then((l.takeWhile (fun b=>decide (b≠c))).length:Int) else -1
 |[]=>by simp[Lib.index]
 |b::l=>by
  unfold Lib.index;by_cases e:b=c
  ·subst e;simp
  ·have e2:¬c=b:=fun h=>e h.symm
   rw[if_neg (by simp[e2]),index_one c l];by_cases m:c∈l
   ·simp[m,e,e2]
    try omega
   ·simp[m,e2]
theorem ov(l:List UInt8):Lib.cut l [58]=bJ l:=by
 unfold Lib.cut bJ;rw[index_one];by_cases m:(58:UInt8)∈l
 ·rw[if_pos m,if_pos (by omega),if_pos m];simp only[cV,al,a6];congr 1;have e:l.takeWhile (fun b=>decide (b≠58))<+:l:=List.takeWhile_prefix _;exact(List.prefix_iff_eq_take.1 e).symm
 ·rw[if_neg m,if_neg (by omega),if_neg m]
theorem eU:∀(d:Nat) (l:List UInt8),l.length<d→Lib.splitK [44] 0 (Lib.countFrom [44] d l) l=pieces l
 |0,l,h=>by omega
 |d+1,l,h=>by
  obtain⟨p,t,h1,h2,h3⟩:=dY l;rw[Lib.countFrom];rcases h3 with⟨h3,h4⟩|⟨r',h3,h4⟩
  ·have hm:¬(44:UInt8)∈l:=by rw[h1,h3,gk];exact h2
   have hi:Lib.index l [44]= -1:=by rw[index_one,if_neg hm]
   rw[hi,h4];simp only[beq_self_eq_true,if_true,Lib.splitK];rw[h1,h3,gk]
  ·have hm:(44:UInt8)∈l:=by rw[h1,h3];simp
   have htw:l.takeWhile (fun b=>decide (b≠44))=p:=by
    rw[h1,h3,List.takeWhile_append_of_pos (fun b hb=>by simp;rintro rfl;exact h2 hb)];simp
   have hi:Lib.index l [44]=(p.length:Int):=by rw[index_one,if_pos hm,htw]
   have hne:¬((p.length:Int)== -1)=true:=by simp
   rw[hi,if_neg hne,Nat.add_comm,Lib.splitK,hi,if_neg hne,h4];simp only[cV,al,a6,Nat.zero_add,Nat.add_zero];have hd:l.drop (p.length+1)=r':=by rw[h1,h3,←List.drop_drop,List.drop_left];rfl
   have ht:l.take p.length=p:=by rw[h1,List.take_left]
   rw[hd,ht,eU d r' (by rw[h1,h3] at h;simp at h;omega)]
theorem la(l:List UInt8):Lib.split l [44]=pieces l:=eU _ l (Nat.lt_succ_self _)
theorem fY{σ:Type}{f:St→Option (Out×St)}(S:σ→St)(Inv:σ→Prop)(μ:σ→Nat)(Post:Out×St→Prop)
  (h:∀s,Inv s→(∃s',f (S s)=some (.normal,S s')∧Inv s'∧μ s'<μ s)∨(∃r,f (S s)=some r∧r.1≠.normal∧Post r)):
  ∀m s,Inv s→μ s<m→∃r,bq f m (S s)=some r∧Post r
 |0,s,_,hm=>by omega
 |m+1,s,hi,hm=>by
  rcases h s hi with⟨s',h1,h2,h3⟩|⟨⟨o,r⟩,h1,h2,h3⟩
  ·obtain⟨r,q1,q2⟩:=fY S Inv μ Post h m s' h2 (by omega);exact⟨r,by simp only[bq,h1];exact q1,q2⟩
  ·refine⟨(o,r), ?_,h3⟩;simp only[bq,h1];cases o with
   |normal=>exact(h2 rfl).elim
   |_=>rfl
def kJ(kt ko:List Nat)(n:Nat):Option (List (Nat×V)×List (Nat×Ob))→Option (Out×St)
 |none=>none
 |some r=>some (.normal,{t:=keep kt r.1,o:=keep ko r.2,n:=n})
theorem j_(kt ko:List Nat)(n:Nat)(t:List (Nat×V))(o:List (Nat×Ob)):kJ kt ko n (some (t,o))=some (.normal,{t:=keep kt t,o:=keep ko o,n:=n}):=rfl
theorem ka(kt ko:List Nat)(n:Nat):kJ kt ko n none=none:=rfl
theorem oq(cf:au)(k:Nat)(s:St)(ops:List cr)(kt ko:List Nat):bp cf k (.a7 ops kt ko) s=kJ kt ko (s.n+16*ops.length) (steps cf s.n 0 ops s.t s.o):=by
 simp only[bp];cases steps cf s.n 0 ops s.t s.o<;>rfl
theorem mS(cf:au)(k:Nat)(s:St)(ops:List cr)(anc:List (List Nat))(kt ko:List Nat):bp cf k (.jZ ops anc kt ko) s=kJ kt ko (s.n+16*ops.length) (bg cf s.n 0 ops anc s.t s.o []):=by
 simp only[bp];cases bg cf s.n 0 ops anc s.t s.o []<;>rfl
theorem mQ(cf:au)(k:Nat)(s:St):bp cf k .skip s=some (.normal,s):=rfl
theorem oj(cf:au)(k:Nat)(s:St)(a b:C):bp cf k (.seq a b) s=match bp cf k a s with|some (.normal,s')=>bp cf k b s'|r=>r:=rfl
theorem mW(cf:au)(k:Nat)(s:St)(c:Nat)(a b:C):bp cf k (.cond (.t c) a b) s=match dp s.t (.t c) with|some true=>bp cf k a s|some false=>bp cf k b s|none=>none:=rfl
theorem lB(cf:au)(k:Nat)(s:St)(id:Nat)(a:C):bp cf k (.block id a) s=match bp cf k a s with|some (.exit id',s')=>some (if id'=id then(.normal,s') else(.exit id',s'))|r=>r:=rfl
theorem mU(cf:au)(k:Nat)(s:St)(a:C):bp cf k (.loop a) s=bq (bp cf k a) k s:=rfl
theorem mV(cf:au)(k:Nat)(s:St)(id:Nat):bp cf k (.exit id) s=some (.exit id,s):=rfl
theorem oo(cf:au)(k:Nat)(s:St):bp cf k .ret s=some (.ret,s):=rfl
theorem mR(cf:au)(k:Nat)(s:St)(ids:List Nat)(a:C):bp cf k (.shut ids a) s=bp cf k a {s with o:=fp ids s.o}:=rfl
theorem o_(n i:Nat):(lr n).contains i=decide (i<n):=by
 simp only[lr,List.contains_eq_mem,List.mem_range]
theorem n8(n i:Nat)(l:List Nat):(lr n++l).contains i=(decide (i<n)||l.contains i):=by
 simp only[lr,List.contains_eq_mem,dT,List.mem_range,Bool.decide_or]
def pE:Option Ob→List Nat
 |some b=>if b.bx then b.rows.flatMap fun r=>r.flatMap dv else []
 |none=>[]
def lz(o:List (Nat×Ob)):List Nat→List Nat
 |[]=>[]
 |id::r=>pE (get o id)++lz o r
def jw(o:List (Nat×Ob)):List T→List Nat
 |[]=>[]
 |t::ts=>(dv t++lz o (dv t))++jw o ts
def od(o:List (Nat×Ob)):Option V→List Nat
 |some (.c t)=>dv t++lz o (dv t)
 |some (.a ts)=>jw o ts
 |_=>[]
def gp(t:List (Nat×V))(o:List (Nat×Ob)):List Nat→List Nat
 |[]=>[]
 |x::xs=>od o (get t x)++gp t o xs
theorem iP(o:List (Nat×Ob)):∀l,l.flatMap (hC o)=lz o l
 |[]=>rfl
 |x::l=>by
  rw[bn,iP o l,lz];congr 1
theorem jv(o:List (Nat×Ob)):∀ts:List T,(ts.flatMap fun t=>dv t++(dv t).flatMap (hC o))=jw o ts
 |[]=>rfl
 |t::ts=>by rw[bn,jv o ts,jw,iP]
theorem hJ(t:List (Nat×V))(o:List (Nat×Ob)):∀l:List Nat,(l.flatMap fun x=>match get t x with|some v=>gJ o v|none=>[])=gp t o l
 |[]=>rfl
 |x::l=>by
  rw[bn,hJ t o l,gp];congr 1;cases h:get t x with
  |none=>rfl
  |some v=>
   cases v with
   |c t=>simp only[gJ,od,iP]
   |a ts=>simp only[gJ,od,jv]
   |_=>rfl
theorem l5(t:List (Nat×V))(o:List (Nat×Ob))(m:MO):cQ t o m=gp t o m.kd:=hJ t o _
attribute [simp] pE lz jw od gp
def l8(t:List (Nat×V))(o:List (Nat×Ob))(d:Option Nat):nK→Option (List (Nat×V)×List (Nat×Ob))
 |none=>none
 |some r=>some (cC t d r.1,r.2++o)
theorem jU(t:List (Nat×V))(o:List (Nat×Ob))(d:Option Nat)(v:V)(u:List (Nat×Ob)):l8 t o d (some (v,u))=some (cC t d v,u++o):=rfl
theorem jV(t:List (Nat×V))(o:List (Nat×Ob))(d:Option Nat):l8 t o d none=none:=rfl
theorem step_eq(cf:au)(n i:Nat)(m:cr)(t:List (Nat×V))(o:List (Nat×Ob)):step cf n i m t o=match wanted t m.guard with
  |some true=>l8 t o m.dst (act cf (n+16*i) (m.dst.getD 0) t o m.op)
  |some false=>some (cC t m.dst .undef,o)
  |none=>none:=by
 unfold step;cases wanted t m.guard with
 |none=>rfl
 |some b=>cases b with
  |false=>rfl
  |true=>simp only[];cases act cf (n+16*i) (m.dst.getD 0) t o m.op<;>rfl
def l9(t:List (Nat×V))(d:Option Nat):nK→Option (List (Nat×V))
 |none=>none
 |some r=>some (cC t d r.1)
theorem jW(t:List (Nat×V))(d:Option Nat)(r:V×List (Nat×Ob)):l9 t d (some r)=some (cC t d r.1):=rfl
theorem jX(t:List (Nat×V))(d:Option Nat):l9 t d none=none:=rfl
theorem l_(cf:au)(n i:Nat)(m:cr)(t:List (Nat×V))(o:List (Nat×Ob)):ev cf n i m t o=match wanted t m.guard with
  |some true=>l9 t m.dst (cp cf (n+16*i) (m.dst.getD 0) t o m.op)
  |some false=>some (cC t m.dst .undef)
  |none=>none:=by
 unfold ev;cases wanted t m.guard with
 |none=>rfl
 |some b=>cases b with
  |false=>rfl
  |true=>simp only[];cases cp cf (n+16*i) (m.dst.getD 0) t o m.op<;>rfl
def dn{α:Type}:Nat→List α→List (Nat×α)
 |_,[]=>[]
 |i,x::xs=>(i,x)::dn (i+1) xs
theorem ja{α:Type}:∀(l:List α) (a n:Nat),l.length≤n→(List.range' a n).zip l=dn a l
 |[],a,n,_=>by simp[dn]
 |x::xs,a,0,h=>by simp at h
 |x::xs,a,n+1,h=>by
  simp only[al] at h;rw[List.range'_succ,List.zip_cons_cons,dn,ja xs (a+1) n (by omega)]
theorem kZ{α:Type}(n:Nat)(l:List α)(h:l.length≤n):(List.range n).zip l=dn 0 l:=by
 rw[List.range_eq_range',ja l 0 n h]
attribute [simp] dn kZ
def py:Option Ob→Nat
 |none=>0
 |some b=>b.ar
def jr(o:List (Nat×Ob)):List (Nat×Nat×Ob)→List (Nat×Nat×Nat)
 |[]=>[]
 |l::r=>(l.1,l.2.1,py (get o l.2.1))::jr o r
theorem jq(o:List (Nat×Ob)):∀ls:List (Nat×Nat×Ob),(ls.map fun l=>(l.1,l.2.1,(get o l.2.1).elim 0 (·.ar)))=jr o ls
 |[]=>rfl
 |l::r=>by
  rw[aI,jq o r,jr];congr 2;cases get o l.2.1<;>rfl
theorem lE(cf:au)(n:Nat)(o:List (Nat×Ob))(f:Nat)(vals:List V)(lend:List Nat)(thaw:List (Nat×Nat)):br cf n o f vals lend thaw=
 match args o lend 0 vals with
 |none=>none
 |some (as,ls,b)=>
  if vals.length≤1000∧(ls.map (·.2.1)).all (fun id=> !b.contains id)∧(ls.map (·.2.1)).Nodup then
   match cf f as (ls.map fun l=>(l.1,l.2.2)) with
   |none=>none
   |some (res,after)=>
    match bL n o after ls,back n (jr o ls) thaw res with
    |some aK,some (v,ups')=>if b.isEmpty∨(res.flat∧aK.all fun u=>u.2.rows.all (·.all T.scalar)) then some (v,aK++ups') else none
    |_,_=>none
  else none:=by
 unfold br;cases args o lend 0 vals with
 |none=>rfl
 |some r=>obtain⟨as,ls,b⟩:=r;simp only[jq];rfl
attribute [simp] py jr
attribute [simp] j_ ka oq mS mQ oj mW lB mU mV oo mR o_ n8 l5 jU jV step_eq jW jX l_ lE
theorem m8:fx []=[]:=rfl
attribute [simp] m8
end Mx
namespace Mx
open Go
variable {M:Nat→Option Body}
def byteOf(x:Int):UInt8:=UInt8.ofNat (x%256).toNat
def four(x:Int):List UInt8:=[byteOf (x/16777216),byteOf (x/65536),byteOf (x/256),byteOf x]
def cB(l:List (List UInt8)):List (List T):=l.map fun s=>[S s]
theorem gv(l:List (List UInt8)):(cB l).length=l.length:=by simp[cB]
theorem kz(l:List (List UInt8))(i:Nat)(h:i<(cB l).length):(cB l)[i]=[S (l[i]'(by simpa [cB] using h))]:=by simp[cB]
theorem jf(a b:List (List UInt8)):cB a++cB b=cB (a++b):=by simp[cB]
theorem ma:cB []=[]:=rfl
theorem k8(l:List (List UInt8))(n:Nat):(cB l).take n=cB (l.take n):=by simp[cB]
theorem k9(l:List (List UInt8)):(cB l).all (fun r=>r.all T.scalar)=true:=by
 simp only[cB,List.all_map,ao];intro n _;rfl
attribute [simp] gv kz jf ma k8 k9
def pB(k:Nat):List UInt8:=109::pH k []
def marks(k:Nat):Nat→List (List UInt8)
 |0=>[]
 |n+1=>marks k n++[pB (k+n)]
theorem lp(k n:Nat):(marks k n).length=n:=by
 induction n with
 |zero=>rfl
 |succ n ih=>simp[marks,ih]
attribute [simp] lp
end Mx
namespace Mx
open Go
attribute [-simp] bp step ev cQ gJ hC br
variable {M:Nat→Option Body}
theorem jY(l:List UInt8):(Lib.splitB (bs [44]) 0 (Lib.countB (bs l) (bs [44])) (bs l)).map (fun x=>[T.str x])=cB (pieces l):=by
 have h:=Lib.splitB_data (bs [44]) 0 (Lib.countB (bs l) (bs [44])) (bs l);have e:Lib.countB (bs l) (bs [44])=Lib.count l [44]:=rfl;have e2:Lib.splitK [44] 0 (Lib.count l [44]) l=pieces l:=la l;rw[e] at h ⊢;have e3:(Lib.splitB (bs [44]) 0 (Lib.count l [44]) (bs l)).map (·.data.toList)=pieces l:=h.trans e2;rw[←e3];simp only[cB,List.map_map];refine List.map_congr_left fun x _=> ?_
 rfl
theorem k_(h:M 538=some (.ext eG))(l:List UInt8)(hl:l.length<4294967281):run M 538 [.c (S l),.c (S [44])] []=some (.c (.sl true 1 (cB (pieces l))),[]):=by
 refine kA h ?_;have e:(bs l).size<4294967281∧1≤(bs [44]).size:=by simp;omega
 simp only[eG,e];rw[jY];rfl
theorem lF(h:M 130=some (.ext jB))(l:List UInt8)(hl:l.length<4294967281):run M 130 [.c (S l),.c (S [58])] []=some (.fj [.c (S (bJ l).1),.c (S (bJ l).2.1),.c (.bool (bJ l).2.2)],[]):=by
 refine kA h ?_;have e:(bs l).size<4294967281:=by simpa using hl
 simp only[jB,e,if_true];rw[←ov];rfl
theorem gm(d:UInt8):∀(l:List UInt8) (n:Nat),val (l++[d]) n=10*val l n+(d.toNat-48)
 |[],n=>rfl
 |c::l,n=>by rw[List.cons_append,val,gm d l];rfl
theorem du(b:UInt8):aO b=true↔(48:Int)≤b.toNat∧(b.toNat:Int)≤57:=by
 simp only[aO,ae,decide_eq_true_eq];have h1:((48:UInt8).toNat:Int)=48:=rfl;have h2:((57:UInt8).toNat:Int)=57:=rfl;rw[UInt8.le_iff_toNat_le,UInt8.le_iff_toNat_le];omega
theorem l3:∀(l:List UInt8) (k:Nat),l.length≤k→l.all aO=true→val l 0<10^k:=by
 have key:∀(l:List UInt8) (n:Nat),l.all aO=true→val l n<(n+1)*10^l.length:=by
  intro l
  induction l with
  |nil=>intro n _;simp[val]
  |cons d l ih=>
   intro n h;simp only[List.all_cons,ae] at h;have:=(du d).1 h.1;have h2:=ih (10*n+(d.toNat-48)) h.2;rw[val,al,Nat.pow_succ];have h3:10*n+(d.toNat-48)+1≤(n+1)*10:=by omega
   calc val l (10*n+(d.toNat-48))<(10*n+(d.toNat-48)+1)*10^l.length:=h2
    _≤((n+1)*10)*10^l.length:=aE _ h3
    _=(n+1)*(10^l.length*10):=by rw[Nat.mul_assoc,Nat.mul_comm 10]
 intro l k hl h;have:=key l 0 h;have h2:10^l.length≤10^k:=Nat.pow_le_pow_right (by omega) hl;omega
def fQ(s:List UInt8)(i:Nat)(x:Nat):St:={t:=[(0,.c (S s)),(4,.c (I (val (s.take i) 0))),(5,.c (I i))],o:=[],n:=x}
def l7(s:List UInt8)(i:Nat)(x:Nat):St:={t:=[(0,.c (S s)),(4,.c (I (val (s.take i) 0))),(5,.c (I i)),(15,.c (.bool false))],o:=[],n:=x}
def pL(s:List UInt8)(r:Out×St):Prop:=(∃i x,r=(.exit 0,l7 s i x)∧i=min s.length 5∧(s.take i).all aO=true)∨(∃i x,∃h:i<s.length,r=(.ret,{t:=[(2,.c (I 0)),(3,.c (.bool false))],o:=[],n:=x})∧aO s[i]=false)
theorem nU(cf:au)(k:Nat)(s:List UInt8)(hl:s.length≤1048576)(p:Nat×Nat)(hp:p.1≤min s.length 5∧(s.take p.1).all aO=true):
  (∃p':Nat×Nat,bp cf k ak.l0 (fQ s p.1 p.2)=some (.normal,fQ s p'.1 p'.2)∧(p'.1≤min s.length 5∧(s.take p'.1).all aO=true)∧5-p'.1<5-p.1)∨
   (∃r,bp cf k ak.l0 (fQ s p.1 p.2)=some r∧r.1≠.normal∧pL s r):=by
 obtain⟨i,x⟩:=p;obtain⟨h1,h2⟩:=hp;simp only at h1 h2 ⊢;by_cases c0:i<s.length∧i<5
 ·obtain⟨c1,c2⟩:=c0;have c3:(i:Int)<s.length:=by omega
  have c4:(i:Int)<5:=by omega
  obtain⟨b,hb⟩:∃b,b=s[i]:=⟨_,rfl⟩
  have hget:∀hh:i<s.length,s[i]'hh=b:=fun _=>hb.symm
  cases hd:aO b with
  |true=>
   left;obtain⟨d1,d2⟩:=(du b).1 hd;have e1:=eS (i:=i) (by omega);have hv:val (s.take i) 0<10^5:=l3 _ 5 (by rw[dA];omega) h2;have ht:s.take (i+1)=s.take i++[b]:=by rw[List.take_succ_eq_append_getElem c1,←hb]
   suffices hh:∃x',bp cf k ak.l0 (fQ s i x)=some (.normal,fQ s (i+1) x') by
    obtain⟨x',hh⟩:=hh;exact⟨(i+1,x'),hh,⟨by simp only;omega,by simp only;rw[ht,List.all_append,h2];simp[hd]⟩,by simp only;omega⟩
   obtain⟨z,hz⟩:∃z:Nat,z=b.toNat:=⟨_,rfl⟩
   have hz2:(b.toNat:Int)=z:=by omega
   have e6:((val (s.take (i+1)) 0:Nat):Int)=10*(val (s.take i) 0:Int)+((z:Int)-48):=by
    rw[ht,gm];omega
   simp only[fQ,e6];generalize val (s.take i) 0=n at*;have e2:IntKind.i64.wrap (10*(n:Int))=10*(n:Int):=wrap_i64 (by omega) (by omega);have e3:IntKind.u8.wrap ((z:Int)-48)=(z:Int)-48:=by
    unfold IntKind.wrap;simp[IntKind.bits,IntKind.signed];omega
   have e4:IntKind.i64.wrap ((z:Int)-48)=(z:Int)-48:=wrap_i64 (by omega) (by omega);have e5:IntKind.i64.wrap (10*(n:Int)+((z:Int)-48))=10*(n:Int)+((z:Int)-48):=wrap_i64 (by omega) (by omega);have d3:¬(z:Int)<48:=by omega
   have d4:¬(57:Int)<z:=by omega
   simp (maxSteps:=9^9) [ak.l0,aJ,ab,setAt,aA,c1,c3,c2,c4,hget,hz2,d3,d4,e1,e2,e3,e4,e5]
  |false=>
   right;have hor:(b.toNat:Int)<48∨(¬(b.toNat:Int)<48∧(57:Int)<b.toNat):=by
    by_cases q:(b.toNat:Int)<48
    ·exact .inl q
    ·right;refine⟨q, ?_⟩;by_cases q2:(57:Int)<b.toNat
     ·exact q2
     ·have:=(du b).2 ⟨by omega,by omega⟩;rw[this] at hd;cases hd
   suffices hh:∃x',bp cf k ak.l0 (fQ s i x)=some (.ret,{t:=[(2,.c (I 0)),(3,.c (.bool false))],o:=[],n:=x'}) by
    obtain⟨x',hh⟩:=hh;exact⟨_,hh,by simp,.inr ⟨i,x',c1,rfl,by rw[←hb];exact hd⟩⟩
   simp only[fQ];rcases hor with q|⟨q,q2⟩
   ·simp (maxSteps:=9^9) [ak.l0,aJ,ab,setAt,aA,c1,c3,c2,c4,hget,q]
   ·simp (maxSteps:=9^9) [ak.l0,aJ,ab,setAt,aA,c1,c3,c2,c4,hget,q,q2]
 ·right;have hi:i=min s.length 5:=by omega
  suffices hh:∃x',bp cf k ak.l0 (fQ s i x)=some (.exit 0,l7 s i x') by
   obtain⟨x',hh⟩:=hh;exact⟨_,hh,by simp,.inl ⟨i,x',rfl,hi,h2⟩⟩
  simp only[fQ,l7];by_cases c1:i<s.length
  ·have c3:(i:Int)<s.length:=by omega
   have c4:¬(i:Int)<5:=by omega
   have c5:¬i<5:=by omega
   simp (maxSteps:=9^9) [ak.l0,aJ,ab,setAt,aA,c1,c3,c4,c5]
  ·have c3:¬(i:Int)<s.length:=by omega
   simp (maxSteps:=9^9) [ak.l0,aJ,ab,setAt,aA,c1,c3]
theorem ak.db(h:ak.k M)(s:List UInt8)(hl:s.length≤1048576):
  ∃v:Int,run M 539 [.c (S s)] []=some (.fj [.c (I v),.c (.bool (aX s).2)],[])∧((aX s).2=true→v=(aX s).1):=by
 obtain⟨h0,kw⟩:=h;have hw:=aT.db kw s.length 1 4;have e0:((0:Nat):Int)=0:=rfl;by_cases c:s=[42]
 ·subst c;refine⟨0,bE (b:=ak.m) h0 ⟨0, ?_⟩,fun _=>rfl⟩;have e:(aX [42]).2=true:=rfl;rw[e];simp (maxSteps:=9^9) [eR,ak.m,ak.b,aJ,ab,setAt,aA]
 obtain⟨r,hr,hp⟩:=fY (f:=bp (run M) 6 ak.l0) (fun p:Nat×Nat=>fQ s p.1 p.2) (fun p=>p.1≤min s.length 5∧(s.take p.1).all aO=true) (fun p=>5-p.1) (pL s)
  (fun p hp=>nU _ _ s hl p hp) 6 (0,2000096) ⟨by simp,by simp⟩ (by simp)
 have hne:bR .eql (bs s) {data:= #[42]}=some (.bool false):=by
  have:=ky s [42];rw[decide_eq_false c] at this;exact this
 simp only[fQ,l7,List.take_zero,val,e0] at hr;rcases hp with⟨i,x,rfl,hi,ha⟩|⟨i,x,hlt,rfl,hd⟩
 ·have hk:(aX s).2=(decide ((1:Int)≤s.length)&&decide ((s.length:Int)≤4)&&decide ((0:Int)<(val (s.take i) 0:Nat)))∧((aX s).2=true→((val (s.take i) 0:Nat):Int)=(aX s).1):=by
   unfold aX;rw[if_neg c];by_cases c4:s.length≤4
   ·have hs:s.take i=s:=ab (by omega);rw[hs] at ha ⊢;by_cases c5:s≠[]∧0<val s 0
    ·rw[if_pos ⟨c4,ha,c5.1,c5.2⟩];have:1≤s.length:=by cases s with|nil=>exact(c5.1 rfl).elim|cons=>simp
     refine⟨?_,fun _=>rfl⟩;rw[decide_eq_true (by omega),decide_eq_true (by omega),decide_eq_true (by omega)];rfl
    ·rw[if_neg (fun z=>c5 ⟨z.2.2.1,z.2.2.2⟩)];refine⟨?_,fun z=>by cases z⟩;by_cases c6:s=[]
     ·subst c6;rfl
     ·have:¬0<val s 0:=fun z=>c5 ⟨c6,z⟩
      rw[decide_eq_false (p:=(0:Int)<(val s 0:Nat)) (by omega),Bool.and_false]
   ·rw[if_neg (fun z=>c4 z.1)];refine⟨?_,fun z=>by cases z⟩;rw[decide_eq_false (p:=(s.length:Int)≤4) (by omega)];simp
  refine⟨(val (s.take i) 0:Nat),bE (b:=ak.m) h0 ⟨6, ?_⟩,hk.2⟩;rw[hk.1];simp only[l7] at hr;generalize val (s.take i) 0=n at*;generalize (decide ((1:Int)≤s.length)&&decide ((s.length:Int)≤4))=wb at*;cases wb with
  |true=>
   simp only[Bool.true_and];simp (maxSteps:=9^9) [eR,ak.m,ak.b,aJ,ab,setAt,aA,hr,hw,hne]
  |false=>
   simp only[Bool.false_and];simp (maxSteps:=9^9) [eR,ak.m,ak.b,aJ,ab,setAt,aA,hr,hw,hne]
 ·have hk:(aX s).2=false:=by
   unfold aX;rw[if_neg c,if_neg (fun z=>by
    have:=List.all_eq_true.1 z.2.1 _ (lY hlt);rw[hd] at this;cases this)]
  refine⟨0,bE (b:=ak.m) h0 ⟨6, ?_⟩,fun z=>by rw[hk] at z;cases z⟩;rw[hk];simp (maxSteps:=9^9) [eR,ak.m,ak.b,aJ,ab,setAt,aA,hr,hne]
end Mx
namespace Mx
open Go
variable {P:Program} {F:Nat→FuncId}
def o6(tab:List (Nat×Fn))(ext:List (Nat×(List V→List (Nat×Ob)→Option (V×List (Nat×Ob)))))(f:Nat):Option Body:=match get tab f with
 |some b=>some (.code b)
 |none=>(get ext f).map fun g=> .ext g
theorem jT{tab:List (Nat×Fn)}{ext:List (Nat×(List V→List (Nat×Ob)→Option (V×List (Nat×Ob))))}(h:∀p∈tab,ch P F p.1 p.2=true)(hx:∀p∈ext,iB P F p.1 p.2):eo P F (o6 tab ext):=by
 intro f;unfold o6;cases hg:get tab f with
 |some b=>exact h _ (get_mem hg)
 |none=>
  cases hq:get ext f with
  |none=>simp
  |some g=>exact hx _ (get_mem hq)
end Mx
namespace Mx
open Go
variable {M:Nat→Option Body}
structure p9 where
 val:Int
 time:Int
 qa:Int
structure nI where
 gid:Int
 uid:Int
 flags:List p9
 text:List UInt8
structure pV where
 gid:Int
 name:List UInt8
 time:Int
 qa:Int
 next:Int
 h9:List nI
 gone:List Int
abbrev pd(r:p9):List T:=[I r.val,I r.time,I r.qa]
abbrev pY(l:List p9):T:= .sl false 3 (l.map pd)
abbrev ot(m:nI):List T:=[I m.gid,I m.uid,pY m.flags,S m.text]
abbrev h9(l:List nI):T:= .sl false 4 (l.map ot)
def qc(l:List nI)(g:Int):Nat→Nat→Option Nat
 |0,_=>none
 |d+1,i=>if h:i<l.length then(if l[i].gid=g then some i else qc l g d (i+1)) else none
def pC(l:List nI)(g:Int):Option Nat:=qc l g l.length 0
def pZ:Option Nat→Int
 |some i=>i
 |none=> -1
def holds(b:pV)(g:Int):Bool:=decide (0≤pZ (pC b.h9 g))
end Mx
namespace Mx
open Go
theorem my{f:St→Option (Out×St)}{n m:Nat}{s:St}{r:Out×St}(h:bq f n s=some r)(hm:n≤m):bq f m s=some r:=dK (fun _ _ h=>h) hm h
def texts{α:Type}(t:α→List UInt8)(l:List α):List UInt8:=l.flatMap t
end Mx
namespace Mx
open Go
variable {M:Nat→Option Body}
structure GX where
 w:Nat
 v8:Nat
 v1:Nat
 v2:Nat
 r8:List (List T)
 r1:List (List T)
 n:Nat
theorem GX.of{p:GX→Prop}(w r8 r1)(h:∃v8 v1 v2 n,p ⟨w,v8,v1,v2,r8,r1,n⟩):∃x,p x:=by
 obtain⟨v8,v1,v2,n,h⟩:=h;exact⟨_,h⟩
def named(l:List pV)(s:List UInt8):Option Nat:=l.findIdx? fun b=>decide (b.name=s)
structure o4 (b:pV):Prop where
 m:b.h9.length≤1048576
 g:b.gone.length≤1048576
 n:b.name.length≤1048576
 f:∀m∈b.h9,m.flags.length≤1048576
theorem o4.ok{b:pV}(h:o4 b):b.h9.length≤1048576∧b.gone.length≤4611686018427387904∧b.name.length≤4611686018427387904∧∀m∈b.h9,m.flags.length≤1048576:=⟨h.m,by have:=h.g;omega,by have:=h.n;omega,h.f⟩
structure pM where
 a:Nat
 b:Nat
 c:Nat
 d:Nat
theorem pM.ex{p:pM→Prop}:(∃x,p x)↔∃a b c d,p ⟨a,b,c,d⟩:=⟨fun⟨⟨a,b,c,d⟩,h⟩=>⟨a,b,c,d,h⟩,fun⟨a,b,c,d,h⟩=>⟨⟨a,b,c,d⟩,h⟩⟩
theorem gP{β γ:Type}(n:Nat){f:St→Option (Out×St)}(S:Nat→β→St)(e:Nat)(E:γ→St)
  (h1:∀i,i<n→∀x,∃y,f (S i x)=some (.normal,S (i+1) y)) (h3:∀x,∃y,f (S n x)=some (.exit e,E y)):
  ∃g:β→γ,∀x,bq f (n+1) (S 0 x)=some (.exit e,E (g x)):=by
 refine jo (f:=f) S (fun i=>i≤n) (fun i=>n-i) (fun _=>()) (fun _ m=>(.exit e,E m)) ?_ (n+1) 0 (Nat.zero_le _) (by omega);intro i x hi;by_cases hlt:i<n
 ·left;obtain⟨y,hy⟩:=h1 i hlt x;exact⟨i+1,y,hy,hlt,by omega,rfl⟩
 ·have:i=n:=by omega
  subst this;right;obtain⟨y,hy⟩:=h3 x;exact⟨y,by simp[hy],by simp⟩
end Mx
namespace Mx
open Go
attribute [-simp] bp step ev cQ gJ hC br
variable {M:Nat→Option Body}
theorem hZ:∀l:List UInt8,(∀p∈pieces l,p.length≤l.length)∧(pieces l).length≤l.length+1
 |[]=>by simp[pieces]
 |b::l=>by
  obtain⟨h1,h2⟩:=hZ l;by_cases c:b=44
  ·simp only[pieces,c,if_true,al];refine⟨fun p hp=> ?_,by omega⟩;rcases List.mem_cons.1 hp with rfl|hp
   ·simp
   ·have:=h1 p hp;omega
  ·simp only[pieces,if_neg c];cases q:pieces l with
   |nil=>exact(ll l q).elim
   |cons p ps=>
    rw[q] at h1 h2;simp only[al] at h2 ⊢;refine⟨fun x hx=> ?_,by omega⟩;rcases List.mem_cons.1 hx with rfl|hx
    ·have:=h1 p (bd ..);simp only[al];omega
    ·have:=h1 x (aU _ hx);omega
theorem ow(p:List UInt8):(bJ p).1.length≤p.length∧(eH p).length≤p.length:=by
 by_cases hc:(58:UInt8)∈p
 ·obtain⟨e,_,e2⟩:=iS hc;have:=congrArg List.length e;simp only[bt,al] at this;refine⟨by omega, ?_⟩;unfold eH;rw[if_pos e2];omega
 ·have e:bJ p=(p,[],false):=by unfold bJ;rw[if_neg hc]
  unfold eH;rw[e];simp
structure pS where
 i:Nat
 acc:List Range
 v:Nat
 n:Nat
def jP(ps:List (List UInt8))(s:pS):St:={t:=[(4,.c (.row 14 s.v 0 s.acc.length)),(16,.c (.sl false 1 (cB ps))),(17,.c (I ps.length)),(18,.c (I s.i))],o:=[(14,⟨s.v,2,true,false,s.acc.map bl⟩)],n:=s.n}
def pO(ps:List (List UInt8))(s:pS):St:={t:=[(4,.c (.row 14 s.v 0 s.acc.length)),(16,.c (.sl false 1 (cB ps))),(17,.c (I ps.length)),(18,.c (I s.i)),(19,.c (.bool false))],o:=[(14,⟨s.v,2,true,false,s.acc.map bl⟩)],n:=s.n}
def ld(v n w:Nat)(ra:List (List T)):St:={t:=[(2,.c (.row 52 w 0 0)),(3,.c (.bool false))],o:=[(14,⟨v,2,true,false,ra⟩),(52,⟨w,2,true,false,[]⟩)],n:=n}
structure p8 (ps:List (List UInt8)) (q:List Range×Bool) (s:pS):Prop where
 i:s.i≤ps.length
 acc:s.acc.length≤8
 q:cz (ps.drop s.i) s.acc=q
def p7(ps:List (List UInt8))(q:List Range×Bool)(r:Out×St):Prop:=(∃s,r=(.exit 0,pO ps s)∧q=(s.acc,true)∧s.acc.length≤8)∨(∃v n w ra,r=(.ret,ld v n w ra)∧q=([],false))
theorem nX(kc:M 130=some (.ext jB))(ks:ak.k M)(k:Nat)(ps:List (List UInt8))(hps:∀p∈ps,p.length≤1048576)(hpl:ps.length≤4294967295)(q:List Range×Bool)(s:pS)(hs:p8 ps q s):
  (∃s',bp (run M) k an.l0 (jP ps s)=some (.normal,jP ps s')∧p8 ps q s'∧ps.length-s'.i<ps.length-s.i)∨
   (∃r,bp (run M) k an.l0 (jP ps s)=some r∧r.1≠.normal∧p7 ps q r):=by
 obtain⟨i,acc,v,n⟩:=s;obtain⟨h1,h2,hq⟩:=hs;simp only at h1 h2 hq;have hsl:(cB ps).length=ps.length:=gv ps;by_cases c0:i<ps.length;rotate_left
 ·right;have:i=ps.length:=by omega
  subst this;rw[List.drop_length,cz] at hq;suffices hh:∃n',bp (run M) k an.l0 (jP ps ⟨ps.length,acc,v,n⟩)=some (.exit 0,pO ps ⟨ps.length,acc,v,n'⟩) by
   obtain⟨n',hh⟩:=hh;exact⟨_,hh,by simp,.inl ⟨_,rfl,hq.symm,h2⟩⟩
  simp only[jP,pO];generalize acc.map bl=ra at*;simp (maxSteps:=9^9) [an.l0,aJ,ab,setAt,aA,hsl]
 have c1:(i:Int)<ps.length:=by omega
 have e1:=eS (i:=i) (by omega);rw[aW c0,cz] at hq;have hple:=hps _ (lY c0);have ha:∀hh:i<(cB ps).length,(cB ps)[i]'hh=[S ps[i]]:=fun hh=>kz ps i hh
 generalize ps[i]=p at*;have g1:=lF kc p (by omega);have hcl:=ow p;obtain⟨a,g2,g3⟩:=ak.db ks (bJ p).1 (by omega);obtain⟨b,g4,g5⟩:=ak.db ks (eH p) (by omega);have hsec:eH p=if(bJ p).2.2=true then(bJ p).2.1 else(bJ p).1:=rfl
 unfold cY at hq;rw[hsec] at g4 g5 hq;generalize bJ p=ct at*;obtain⟨f,t,two⟩:=ct;simp only at g1 g2 g3 g4 g5 hq;have er:(acc.map bl).length=acc.length:=by simp
 have et:(acc.map bl).take acc.length=acc.map bl:=ab (by omega);generalize hsa:aX f=sa at*;obtain⟨sa,oa⟩:=sa;generalize hsb:aX (if two=true then t else f)=sb at*;obtain⟨sb,ob⟩:=sb;simp only at g2 g3 g4 g5 hq;have bad:q=([],false)→(∃v' n' w ra,bp (run M) k an.l0 (jP ps ⟨i,acc,v,n⟩)=some (.ret,ld v' n' w ra))→(∃r,bp (run M) k an.l0 (jP ps ⟨i,acc,v,n⟩)=some r∧r.1≠.normal∧p7 ps q r):=by
  rintro e ⟨v',n',w,ra,hh⟩;exact⟨_,hh,by simp,.inr ⟨_,_,_,_,rfl,e⟩⟩
 cases oa with
 |false=>
  right;rw[if_neg (by simp)] at hq;refine bad hq.symm ?_;simp only[jP,ld];refine⟨v, ?_⟩;generalize acc.map bl=ra at*;cases two with
  |true=>simp only[if_true] at g4;simp (maxSteps:=9^9) [an.l0,aJ,ab,setAt,aA,hsl,ha,c0,c1,g1,g2,g4]
  |false=>simp only[aD,if_false] at g4;simp (maxSteps:=9^9) [an.l0,aJ,ab,setAt,aA,hsl,ha,c0,c1,g1,g2,g4]
 |true=>
  have ga:=g3 rfl;subst ga;cases ob with
  |false=>
   right;rw[if_neg (by simp)] at hq;refine bad hq.symm ?_;simp only[jP,ld];refine⟨v, ?_⟩;generalize acc.map bl=ra at*;cases two with
   |true=>simp only[if_true] at g4;simp (maxSteps:=9^9) [an.l0,aJ,ab,setAt,aA,hsl,ha,c0,c1,g1,g2,g4]
   |false=>simp only[aD,if_false] at g4;rw[g2] at g4;cases g4
  |true=>
   have gb:=g5 rfl;subst gb;rw[if_pos ⟨rfl,rfl⟩] at hq;simp only at hq;by_cases c8:acc.length=8
   ·right;rw[if_pos c8] at hq;refine bad hq.symm ?_;have c9:(acc.length:Int)=8:=by omega
    simp only[jP,ld];refine⟨v, ?_⟩;generalize acc.map bl=ra at*;cases two with
    |true=>simp only[if_true] at g4;simp (maxSteps:=9^9) [an.l0,aJ,ab,setAt,aA,hsl,ha,c0,c1,g1,g2,g4,c9]
    |false=>simp only[aD,if_false] at g4;simp (maxSteps:=9^9) [an.l0,aJ,ab,setAt,aA,hsl,ha,c0,c1,g1,g2,g4,c9]
   ·left;rw[if_neg c8] at hq;have c9:¬(acc.length:Int)=8:=by omega
    have e5:acc.length+1≤4294967296:=by omega
    suffices hh:∃v' n',bp (run M) k an.l0 (jP ps ⟨i,acc,v,n⟩)=some (.normal,jP ps ⟨i+1,acc++[⟨(sa:Int),(sb:Int)⟩],v',n'⟩) by
     obtain⟨v',n',hh⟩:=hh;exact⟨_,hh,⟨c0,by simp;omega,hq⟩,by simp only;omega⟩
    simp only[jP,bN,aI,bC,bt,al,a6]
    try simp only[bl]
    generalize acc.map bl=ra at*;cases two with
    |true=>simp only[if_true] at g4;simp (maxSteps:=9^9) [an.l0,aJ,ab,setAt,aA,hsl,ha,c0,c1,g1,g2,g4,c9,e1,e5,er,et]
    |false=>
     have hab:sa=sb:=by
      rw[if_neg (by simp),hsa] at hsb;exact(Prod.mk.inj hsb).1
     subst hab;simp (maxSteps:=9^9) [an.l0,aJ,ab,setAt,aA,hsl,ha,c0,c1,g1,g2,c9,e1,e5,er,et]
theorem an.db(h:an.k M)(l:List UInt8)(hl:l.length≤1048576):
  run M 530 [.c (S l)] []=some (.fj [.c (.sl true 2 ((cy l).1.map bl)),.c (.bool (cy l).2)],[]):=by
 obtain⟨h0,kc,ksp,ks⟩:=h;have h1:=k_ ksp l (by omega);obtain⟨p1,p2⟩:=hZ l;unfold cy;generalize pieces l=ps at*;obtain⟨r,hr,hp⟩:=fY (f:=bp (run M) (ps.length+1) an.l0) (jP ps) (p8 ps (cz ps [])) (fun s=>ps.length-s.i) (p7 ps (cz ps []))
  (fun s hs=>nX kc ks _ ps (fun p hp=>by have:=p1 p hp;omega) (by omega) _ s hs) (ps.length+1) ⟨0,[],2000032,2000128⟩ ⟨Nat.zero_le _,by simp,rfl⟩ (by simp only;omega)
 refine bE (b:=an.m) h0 ⟨ps.length+1, ?_⟩;have e0:((0:Nat):Int)=0:=rfl;have hsl:(cB ps).length=ps.length:=gv ps;rcases hp with⟨⟨i,acc,v,n⟩,rfl,hq,h8⟩|⟨v,n,w,ra,rfl,hq⟩
 ·rw[hq];simp only at h8;have er:(acc.map bl).length=acc.length:=by simp
  have et:(acc.map bl).take acc.length=acc.map bl:=ab (by omega);simp only[jP,pO,bC,a6,e0] at hr ⊢;generalize acc.map bl=rt at*;simp (maxSteps:=9^9) [eR,an.m,an.b,aJ,ab,setAt,aA,h1,hr,hsl,er,et]
 ·rw[hq];simp only[jP,ld,bC,a6,e0] at hr ⊢;simp (maxSteps:=9^9) [eR,an.m,an.b,aJ,ab,setAt,aA,h1,hr,hsl]
end Mx
