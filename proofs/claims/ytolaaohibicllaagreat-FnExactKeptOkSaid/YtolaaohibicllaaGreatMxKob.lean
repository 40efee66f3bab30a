/-
  What more of the functions compute, each by a small evaluation; no condition beyond what each says.
-/
import Derived.Orders
import Derived.LoopN
import Derived.Below
import Derived.Carry
import Derived.Deep.Slices
import Derived.ChangeArms
import Derived.Test.YtolaaohibicllaaGreatMxKo
set_option maxHeartbeats 16000000
set_option linter.unusedSimpArgs false
set_option linter.unusedVariables false
namespace Mx
open Go
variable {P:Program} {F:Nat→FuncId} {Pr:Nat→Prop} {w0:World} {lb:Lb} {N:Nat} {E:Nat→Option Loc} {n:Nat} {t:List (Nat×V)} {o:List (Nat×Ob)} {a:Act} {w:World}
def ug(X Y:Cx):Prop:=∀t v,ff t→j7 X t v→j7 Y t v
structure Home (X Y:Cx) (own:Nat→Option Loc) (lent:List (Nat×Ob)) (n:Nat) (lmap:List (Nat×Nat×Nat)) (thaw:List (Nat×Nat)):Prop where
 heap:Y.w=X.w
 FT:∀q id,get thaw q=some id→Y.E (n+q)=own q
 free:∀q b cap sz,get thaw q=none→own q=some (.kP b cap sz)→¬Y.U b
 C8:∀p id ct,get lmap p=some (id,ct)→∃ob,get lent p=some ob∧∀l,X.E p=some l→Y.E ct=some l
def xX(X:Cx)(own:Nat→Option Loc)(n:Nat)(thaw:List (Nat×Nat))(fl:Bool)(u:Nat×Ob):Prop:=
 ∃q l,get thaw q=some u.1∧own q=some l∧u.2.ct=n+q∧u.2.w=true∧(∀(i j:Nat) (r:List T) (t:T),u.2.rows[i]? =some r→r[j]? =some t→ff t)∧oJ X u.2 l∧(fl=true→u.2.rows.all (fun r=>r.all T.scalar)=true)
theorem oJ.ct{X:Cx}{ob ob':Ob}{l:Loc}(h:oJ X ob l)(h1:ob'.rows=ob.rows)(h2:ob'.sz=ob.sz)(h3:ob'.bx=ob.bx):oJ X ob' l:=by
 cases l with
 |nil=>exact⟨by rw[h1];exact h.1,by rw[h3];exact h.2⟩
 |kP b cap sz=>exact⟨by rw[h2];exact h.1,h.2.move rfl h1 h2 (by rw[h1,h3];exact h.2.cl) fun i j r t v _ _ hv=>hv⟩
theorem tp{rows:List (List T)}(h:rows.all (fun r=>r.all T.scalar)=true){i j:Nat}{r:List T}{t:T}(hi:rows[i]? =some r)(hj:r[j]? =some t):t.scalar=true:=by
 simp only[fL] at h;exact h r (jI hi) t (jI hj)
theorem Hy{X Y:Cx}{sz:Nat}{rows:List (List T)}{l:Loc}(hr:oJ X {ct:=0,sz:=sz,w:=true,bx:=false,rows:=rows} l)(hw:Y.w=X.w)(hu:∀b cap sz,l= .kP b cap sz→¬Y.U b)
  (hm:ug X Y∨rows.all (fun r=>r.all T.scalar)=true):j7 Y (.sl false sz rows) (HQ l rows.length):=by
 cases l with
 |nil=>
  obtain⟨h,_⟩:=hr;simp only at h;subst h;exact j7.empty (X:=Y) false sz none 0
 |kP b cap sz'=>
  obtain⟨e,hl,hwid,hcl,cs,e1,fr,m1,m2,m3,m4⟩:=hr;simp only at e hl hwid hcl m2 m4;subst e;refine .sl false sz' rows (some (gK b)) cap (fun i j=>cs.getD (i*sz'+j) undef) hl hwid ?_ ?_ (hcl trivial)
  ·intro i j r t hi ht;obtain⟨v,hv,_⟩:=m4 i j r t hi ht;refine⟨_,rfl,hu b cap sz' rfl, ?_⟩;rw[lz,hw];simp only[World.cell?,m1,Option.isSome_none,aB,if_false,dv,hv];rfl
  ·intro i j r t hi ht;obtain⟨v,hv,hrep⟩:=m4 i j r t hi ht;simp only[dv,hv,jU];rcases hm with hm|hm
   ·exact hm _ _ (hcl trivial i j r t hi ht) hrep
   ·exact hrep.scalar (tp hm hi ht)
theorem A7{X Y:Cx}{own:Nat→Option Loc}{lent:List (Nat×Ob)}{lmap:List (Nat×Nat×Nat)}{thaw:List (Nat×Nat)}{q:Nat}{x y:T}{gf:List (Nat×Ob)}{v:Value}{fl:Bool}
  (H:Home X Y own lent n lmap thaw) (hm:ug X Y∨fl=true) (hf:fl=true→qj x=true) (h:oP n lmap thaw q x=some (y,gf)) (hr:tq X own lent q x v):
  j7 Y y v∧∀u∈gf,xX X own n thaw fl u:=by
 cases hr with
 |int k m=>simp[oP] at h;obtain⟨rfl,rfl⟩:=h;exact⟨.int _ _,fun u hu=>by simp at hu⟩
 |bool b=>simp[oP] at h;obtain⟨rfl,rfl⟩:=h;exact⟨.bool _,fun u hu=>by simp at hu⟩
 |str s=>simp[oP] at h;obtain⟨rfl,rfl⟩:=h;exact⟨.str _,fun u hu=>by simp at hu⟩
 |own sz rows l ho hl=>
  simp only[oP] at h;split at h
  ·rename_i id hid;simp only[if_true,aH,aR] at h;obtain⟨rfl,rfl⟩:=h;have hE:=H.FT q id hid;rw[ho] at hE;refine⟨?_,fun u hu=> ?_⟩
   ·cases l with
    |nil=>
     have:=hl.1;simp only at this;subst this;exact .oi id (n+q) hE
    |kP b cap sz'=>
     have hlen:rows.length≤cap:=hl.2.len;have:=nS (X:=Y) (id:=id) (ct:=n+q) hE hlen;exact this
   ·simp only[iV] at hu;subst hu;exact⟨q,l,hid,ho,rfl,rfl,(match l,hl with| .nil,hl=>fun i j r t hi _=>(by have:=hl.1;simp only at this;subst this;simp at hi)| .kP _ _ _,hl=>hl.2.cl rfl),hl.ct rfl rfl rfl,fun hfl=>by have:=hf hfl;simpa [qj] using this⟩
  ·rename_i hid;simp only[aH,aR] at h;obtain⟨rfl,rfl⟩:=h;exact⟨Hy hl H.heap (fun b cap sz e=>H.free q b cap sz hid (by rw[ho,e])) (hm.imp id fun k=>by have:=hf k;simpa [qj] using this),fun u hu=>by simp at hu⟩
 |box cells b cap ho hl hc=>
  simp only[oP] at h;split at h
  ·rename_i id hid;simp only[aH,aR] at h;obtain⟨rfl,rfl⟩:=h;have hE:=H.FT q id hid;rw[ho] at hE;refine⟨?_,fun u hu=> ?_⟩
   ·have:=j7.ptr (X:=Y) id (n+q) 0 0 b cap cells.length hE;simpa [add_zero] using this
   ·simp only[iV] at hu;subst hu;refine⟨q,_,hid,ho,rfl,rfl,fun i j r t hi ht=> ?_,hl.ct rfl rfl rfl,fun hfl=>by have:=hf hfl;simp[qj] at this⟩;cases i with
    |zero=>simp at hi;subst hi;exact hc j t ht
    |succ i=>simp at hi
  ·cases h
 |sh sz rows _ hs=>
  simp only[oP] at h;split at h
  ·simp at h
  ·simp only[aH,aR] at h;obtain⟨rfl,rfl⟩:=h;refine⟨?_,fun u hu=>by simp at hu⟩;rcases hm with hm|hm
   ·refine hm _ _ ?_ hs;cases hs with|sl _ _ _ A c vs h1 h2 h3 h4 h5=>exact .sl _ _ _ h5
   ·have:=hf hm;simp[qj] at this
 |row p ct off len _ hs=>
  simp only[oP] at h;split at h
  ·rename_i id ver' hp;simp only[aH,aR] at h;obtain⟨rfl,rfl⟩:=h;obtain⟨ob,h1,h2⟩:=H.C8 p id ver' hp;refine⟨?_,fun u hu=>by simp at hu⟩;have:=hs ob h1;cases this with
   |row _ _ _ _ cap sz b hE hl ho=>exact .row _ _ off len cap sz b (h2 _ hE) hl ho
   |oi _ _ hE=>exact .oi _ _ (h2 _ hE)
  ·cases h
theorem A8{X Y:Cx}{own:Nat→Option Loc}{lent:List (Nat×Ob)}{lmap:List (Nat×Nat×Nat)}{thaw:List (Nat×Nat)}{fl:Bool}
  (H:Home X Y own lent n lmap thaw) (hm:ug X Y∨fl=true):∀{q:Nat} {xs ys:List T} {gf:List (Nat×Ob)} {vs:List Value},(fl=true→xs.all qj=true)→rZ n lmap thaw q xs=some (ys,gf)→Ez X own lent q xs vs→
  g_ Y ys vs∧∀u∈gf,xX X own n thaw fl u
 |q,[],ys,gf,vs,hf,h,hr=>by
  simp[rZ] at h;obtain⟨rfl,rfl⟩:=h;cases vs with
  |nil=>exact⟨.nil Y,fun u hu=>by simp at hu⟩
  |cons=>simp[Ez] at hr
 |q,x::xs,ys,gf,vs,hf,h,hr=>by
  cases vs with
  |nil=>simp[Ez] at hr
  |cons v vs=>
   simp only[rZ] at h;split at h
   ·rename_i y u1 h1;split at h
    ·rename_i ys' u2 h2;simp only[aH,aR] at h;obtain⟨rfl,rfl⟩:=h;obtain⟨r1,r2⟩:=hr;have hf':=fun k=>by have:=hf k;simpa [List.all_cons,aj] using this
     obtain⟨a1,a2⟩:=A7 H hm (fun k=>(hf' k).1) h1 r1;obtain⟨b1,b2⟩:=A8 H hm (fun k=>by simpa using(hf' k).2) h2 r2;refine⟨.cons a1 b1,fun u hu=> ?_⟩;rcases List.mem_append.1 hu with q|q
     ·exact a2 u q
     ·exact b2 u q
    ·cases h
   ·cases h
def V.Jl:V→Bool
 | .c t=>qj t
 | .a ts=>ts.all qj
 |_=>false
theorem xU{X Y:Cx}{own:Nat→Option Loc}{lent:List (Nat×Ob)}{lmap:List (Nat×Nat×Nat)}{thaw:List (Nat×Nat)}{fl:Bool}{q q':Nat}{x y:V}{gf:List (Nat×Ob)}{v:Value}
  (H:Home X Y own lent n lmap thaw) (hm:ug X Y∨fl=true) (hf:fl=true→x.Jl=true) (h:pQ n lmap thaw q x=some (y,gf,q')) (hr:vZ X own lent q x v):
  kQ Y y v∧q'=q+x.width∧∀u∈gf,xX X own n thaw fl u:=by
 cases x with
 |c x=>
  simp only[pQ] at h;split at h
  ·rename_i t' u1 h1;simp only[aH,aR] at h;obtain⟨rfl,rfl,rfl⟩:=h;obtain⟨a1,a2⟩:=A7 H hm hf h1 hr;exact⟨.c _ _ a1,rfl,a2⟩
  ·cases h
 |a xs=>
  simp only[pQ] at h;split at h
  ·rename_i ys u1 h1;simp only[aH,aR] at h;obtain⟨rfl,rfl,rfl⟩:=h;cases v with
   |agg cs=>
    obtain⟨a1,a2⟩:=A8 H hm hf h1 hr;have:=kQ.KB a1;exact⟨by simpa using this,rfl,a2⟩
   |_=>simp[vZ] at hr
  ·cases h
 |lM=>simp[pQ] at h
 |undef=>simp[pQ] at h
theorem y7{X Y:Cx}{own:Nat→Option Loc}{lent:List (Nat×Ob)}{lmap:List (Nat×Nat×Nat)}{thaw:List (Nat×Nat)}{fl:Bool}
  (H:Home X Y own lent n lmap thaw) (hm:ug X Y∨fl=true):∀{q:Nat} {xs ys:List V} {gf:List (Nat×Ob)} {vs:List Value},(fl=true→xs.all V.Jl=true)→q0 n lmap thaw q xs=some (ys,gf)→vQ X own lent q xs vs→
  ys.length=vs.length∧(∀(i:Nat) (y:V) (v:Value),ys[i]? =some y→vs[i]? =some v→kQ Y y v)∧∀u∈gf,xX X own n thaw fl u
 |q,[],ys,gf,vs,hf,h,hr=>by
  simp[q0] at h;obtain⟨rfl,rfl⟩:=h;cases vs with
  |nil=>exact⟨rfl,fun i y v h=>by simp at h,fun u hu=>by simp at hu⟩
  |cons=>simp[vQ] at hr
 |q,x::xs,ys,gf,vs,hf,h,hr=>by
  cases vs with
  |nil=>simp[vQ] at hr
  |cons v vs=>
   simp only[q0] at h;split at h
   ·rename_i y u1 q1 h1;split at h
    ·rename_i ys' u2 h2;simp only[aH,aR] at h;obtain⟨rfl,rfl⟩:=h;obtain⟨r1,r2⟩:=hr;have hf':=fun k=>by have:=hf k;simpa [List.all_cons,aj] using this
     obtain⟨a1,rfl,a2⟩:=xU H hm (fun k=>(hf' k).1) h1 r1;obtain⟨b0,b1,b2⟩:=y7 H hm (fun k=>by simpa using(hf' k).2) h2 r2;refine⟨by simp[b0], ?_,fun u hu=> ?_⟩
     ·intro i y v hy hv;cases i with
      |zero=>simp at hy hv;subst hy hv;exact a1
      |succ i=>exact b1 i y v (by simpa using hy) (by simpa using hv)
     ·rcases List.mem_append.1 hu with q|q
      ·exact a2 u q
      ·exact b2 u q
    ·cases h
   ·cases h
theorem Dk{X Y:Cx}{own:Nat→Option Loc}{lent:List (Nat×Ob)}{lmap:List (Nat×Nat×Nat)}{thaw:List (Nat×Nat)}{x y:V}{gf:List (Nat×Ob)}{v:Value}{fl:Bool}
  (H:Home X Y own lent n lmap thaw) (hm:ug X Y∨fl=true) (hf:fl=true→x.flat=true) (h:back n lmap thaw x=some (y,gf)) (hr:yl X own lent x v):
  kQ Y y v∧∀u∈gf,xX X own n thaw fl u:=by
 cases x with
 |lM vs=>
  simp only[back,al,aR] at h;obtain⟨r,h1,rfl,rfl⟩:=h;cases v with
  |tuple xs=>
   obtain⟨b0,b1,b2⟩:=y7 H hm (fun k=>hf k) h1 hr;exact⟨.lM _ _ (by simpa using b0) fun i v x h1 h2=>b1 i v x h1 (by simpa using h2),b2⟩
  |_=>simp[yl,vZ] at hr
 |c t=>
  simp only[back,al,aR] at h;obtain⟨r,h1,rfl,rfl⟩:=h;obtain⟨a1,_,a2⟩:=xU H hm (x:= .c t) hf (q':=r.2.2) h1 hr;exact⟨a1,a2⟩
 |a ts=>
  simp only[back,al,aR] at h;obtain⟨r,h1,rfl,rfl⟩:=h;obtain⟨a1,_,a2⟩:=xU H hm (x:= .a ts) hf (q':=r.2.2) h1 hr;exact⟨a1,a2⟩
 |undef=>simp[back,pQ] at h
theorem vv{nn:Nat}{o after:List (Nat×Ob)}:∀{ls:List (Nat×Nat×Ob)} {gf:List (Nat×Ob)},lg nn o after ls=some gf→
  (∀u∈gf,∃l∈ls,∃b,l.2.1=u.1∧get o u.1=some b∧u.2=q9 nn b (get after l.1))∧∀l∈ls,∃ob,get gf l.2.1=some ob
 |[],gf,h=>by simp[lg] at h;subst h;exact⟨fun u hu=>by simp at hu,fun l hl=>by simp at hl⟩
 |(p,id,ob)::ls,gf,h=>by
  simp only[lg] at h;split at h
  ·rename_i b l h2 h3;cases h;obtain⟨i1,i2⟩:=vv h3;refine⟨fun u hu=> ?_,fun l' hl=> ?_⟩
   ·rcases List.mem_cons.1 hu with rfl|hu
    ·exact⟨_,bl ..,b,rfl,h2,rfl⟩
    ·obtain⟨l',k1,k2⟩:=i1 u hu;exact⟨l',bo _ k1,k2⟩
   ·simp only[get];split
    ·exact⟨_,rfl⟩
    ·rename_i hne;rcases List.mem_cons.1 hl with rfl|hl
     ·exact(hne rfl).elim
     ·exact i2 l' hl
  ·cases h
end Mx
namespace Mx
open Go
variable {P:Program} {F:Nat→FuncId} {Pr:Nat→Prop} {w0:World} {lb:Lb} {N:Nat} {E:Nat→Option Loc} {n:Nat→Prop} {t:List (Nat×V)} {o:List (Nat×Ob)} {a:Act} {w:World}
theorem tO{p id:Nat}{v v':V}{ob:Ob}(h:nF o p v=some (v',id,ob)):tr o (p,id,ob):=by
 unfold nF at h;split at h
 ·split at h
  ·rename_i b hg;split at h
   ·rename_i hc;simp only[al,aR] at h;obtain⟨rows,hm,rfl,rfl,rfl⟩:=h;exact⟨b,hg,hc.2.1,rfl,rfl,hc.2.1,rfl,.inr hm⟩
   ·cases h
  ·cases h
 ·split at h
  ·rename_i b hg;split at h
   ·rename_i hc;simp only[aH,aR] at h;obtain⟨rfl,rfl,rfl⟩:=h;exact⟨b,hg,hc.2.1,rfl,rfl,hc.2.1,rfl,.inl ⟨rfl,hc.2.2.1⟩⟩
   ·cases h
  ·cases h
 ·cases h
theorem w_{lend:List Nat}:∀{ts:List T} {k:Nat} {ts':List T} {ls:List (Nat×Nat×Ob)} {b:List Nat},qd o lend k ts=some (ts',ls,b)→
  (∀l∈ls,k≤l.1∧l.1<k+ts.length∧tr o l)∧(ls.map (·.1)).Nodup
 |[],k,ts',ls,b,h=>by
  simp[qd] at h;obtain⟨rfl,rfl,rfl⟩:=h;exact⟨fun l hl=>by simp at hl,by simp⟩
 |t::ts,k,ts',ls,b,h=>by
  simp only[qd] at h;split at h
  ·cases h
  ·rename_i ts1 ls1 b1 hrest;obtain⟨i3,i4⟩:=w_ hrest;split at h
   ·split at h
    ·rename_i t' id ob hlo;simp only[aH,aR] at h;obtain⟨rfl,rfl,rfl⟩:=h;have k1:=tO hlo;refine⟨?_, ?_⟩
     ·intro l hl;rcases List.mem_cons.1 hl with rfl|hl
      ·exact⟨Nat.le_refl _,by simp,k1⟩
      ·obtain⟨q1,q2,q3⟩:=i3 l hl;exact⟨by omega,by simp;omega,q3⟩
     ·simp only[bu,List.nodup_cons];refine⟨?_,i4⟩;intro hm;obtain⟨l,hl,e⟩:=List.mem_map.1 hm;have:=(i3 l hl).1;omega
    ·cases h
   ·split at h
    ·simp only[aH,aR] at h;obtain⟨rfl,rfl,rfl⟩:=h;refine⟨?_,i4⟩;intro l hl;obtain⟨q1,q2,q3⟩:=i3 l hl;exact⟨by omega,by simp;omega,q3⟩
    ·cases h
def vR(p q k:Nat):Prop:=(p≤k∧k<q)∨(1000000+64*p≤k∧k<1000000+64*q)
theorem za{lend:List Nat}:∀{vals:List V} {p:Nat} {as:List V} {ls:List (Nat×Nat×Ob)} {b:List Nat},args o lend p vals=some (as,ls,b)→p+vals.length≤1000→
  as.length=vals.length∧(∀l∈ls,vR p (p+vals.length) l.1∧tr o l)∧(ls.map (·.1)).Nodup
 |[],p,as,ls,b,h,_=>by
  simp[args] at h;obtain⟨rfl,rfl,rfl⟩:=h;exact⟨rfl,fun l hl=>by simp at hl,by simp⟩
 |v::vals,p,as,ls,b,h,hp=>by
  simp only[bV] at hp;simp only[args] at h;split at h
  ·cases h
  ·rename_i as' ls' b' hrest;obtain⟨i1,i3,i4⟩:=za hrest (by omega);have up:∀k,vR (p+1) (p+1+vals.length) k→vR p (p+(v::vals).length) k:=by
    intro k hk;simp only[vR,bV] at hk ⊢;omega
   split at h
   ·split at h
    ·rename_i v' id ob hlo;simp only[aH,aR] at h;obtain⟨rfl,rfl,rfl⟩:=h;have k1:=tO hlo;refine⟨by simp[i1], ?_, ?_⟩
     ·intro l hl;rcases List.mem_cons.1 hl with rfl|hl
      ·exact⟨.inl ⟨Nat.le_refl _,by simp⟩,k1⟩
      ·obtain⟨q1,q3⟩:=i3 l hl;exact⟨up _ q1,q3⟩
     ·simp only[bu,List.nodup_cons];refine⟨?_,i4⟩;intro hm;obtain⟨l,hl,e⟩:=List.mem_map.1 hm;have:=(i3 l hl).1;simp only[vR] at this;omega
    ·cases h
   ·split at h
    ·split at h
     ·rename_i ts;split at h
      ·rename_i h64;split at h
       ·rename_i ts' ls1 b1 hcells;simp only[aH,aR] at h;obtain⟨rfl,rfl,rfl⟩:=h;obtain⟨j3,j4⟩:=w_ hcells;refine⟨by simp[i1], ?_, ?_⟩
        ·intro l hl;rcases List.mem_append.1 hl with hl|hl
         ·obtain⟨q1,q2,q3⟩:=j3 l hl;exact⟨.inr ⟨q1,by simp only[bV];omega⟩,q3⟩
         ·obtain⟨q1,q3⟩:=i3 l hl;exact⟨up _ q1,q3⟩
        ·rw[cg,List.nodup_append];refine⟨j4,i4, ?_⟩;intro x hx y hy e;obtain⟨l,hl,e1⟩:=List.mem_map.1 hx;obtain⟨l',hl',e2⟩:=List.mem_map.1 hy;have q1:=(j3 l hl).1;have q2:=(j3 l hl).2.1;have q3:=(i3 l' hl').1;simp only[vR] at q3;omega
       ·cases h
      ·cases h
     ·cases h
    ·split at h
     ·rename_i v' hv';simp only[aH,aR] at h;obtain⟨rfl,rfl,rfl⟩:=h;refine⟨by simp[i1], ?_,i4⟩;intro l hl;obtain⟨q1,q3⟩:=i3 l hl;exact⟨up _ q1,q3⟩
     ·cases h
theorem AA{X Y:Cx}(hF:Y.F=X.F)(hc:∀ad v,¬X.U ad.block→X.w.cell? ad=some v→Y.w.cell? ad=some v∧¬Y.U ad.block):ug X Y:=fun _ _ k h=>h.Jo hF hc k
def mf(ls:List (Nat×Nat×Ob)):List (Nat×Ob):=ls.map fun l=>(l.1,l.2.2)
def rB(E:Nat→Option Loc)(o:List (Nat×Ob))(ls:List (Nat×Nat×Ob))(v:Nat):Option Loc:=
 match get (ls.map fun l=>(l.1,l.2.1)) v with
 |some id=>(match get o id with|some b=>E b.ct|none=>none)
 |none=>none
def LB(E:Nat→Option Loc)(o:List (Nat×Ob))(ls:List (Nat×Nat×Ob))(bk:Nat):Prop:=∃l∈ls,Bo E o l.2.1 bk
theorem te{α:Type}{ls:List (Nat×Nat×Ob)}(hn:(ls.map (·.1)).Nodup)(g:Nat×Nat×Ob→α){l:Nat×Nat×Ob}(hl:l∈ls):get (ls.map fun l=>(l.1,g l)) l.1=some (g l):=
 tX (by rw[List.map_map];exact hn) (List.mem_map.2 ⟨l,hl,rfl⟩)
theorem mT{α:Type}{ls:List (Nat×Nat×Ob)}(g:Nat×Nat×Ob→α){p:Nat}{x:α}(h:get (ls.map fun l=>(l.1,g l)) p=some x):∃l∈ls,l.1=p∧g l=x:=by
 obtain⟨l,hl,e⟩:=List.mem_map.1 (get_mem h);cases e;exact⟨l,hl,rfl,rfl⟩
section
variable {ls:List (Nat×Nat×Ob)} (hk:(ls.map (·.1)).Nodup) (hlo:∀l∈ls,tr o l)
include hk hlo
omit hlo in
theorem uj{l:Nat×Nat×Ob}(hl:l∈ls){b:Ob}(hg:get o l.2.1=some b):rB E o ls l.1=E b.ct:=by
 simp only[rB,te hk (fun l=>l.2.1) hl,hg]
theorem o9(bk:Nat):uh (mf ls) (rB E o ls) bk↔LB E o ls bk:=by
 constructor
 ·rintro ⟨p,ob,cap,sz,h1,h2⟩;obtain⟨l,hl,rfl,rfl⟩:=mT (fun l=>l.2.2) h1;obtain⟨b,hg,_,hver,_⟩:=hlo l hl;rw[hver,uj hk hl hg] at h2;exact⟨l,hl,b,cap,sz,hg,h2⟩
 ·rintro ⟨l,hl,b,cap,sz,hg,hE⟩;obtain⟨b',hg',_,hver,_⟩:=hlo l hl;exact⟨l.1,l.2.2,cap,sz,te hk (fun l=>l.2.2) hl,by rw[hver,uj hk hl hg];exact hE⟩
omit hk in
theorem GZ{bk:Nat}(h:LB E o ls bk):(cx F Pr E o w).U bk:=by
 obtain⟨l,hl,b,cap,sz,hg,hE⟩:=h;obtain⟨b',hg',hw,_⟩:=hlo l hl;rw[hg] at hg';cases hg';exact .inl ⟨_,b,cap,sz,hg,hw,hE⟩
end
theorem Kr(R:Rel F Pr w0 lb N E n t o a w){bk:Nat}(h:(cx F Pr E o w).U bk):bk<w.heap.size:=by
 rcases h with⟨id,ob,cap,sz,g1,_,g3⟩|hpr
 ·exact(R.place id ob bk cap sz g1 g3).1
 ·exact Nat.lt_of_lt_of_le (R.pr.1 bk hpr).1 R.size
theorem Di(R:Rel F Pr w0 lb N E n t o a w){nn:Nat}{n':Nat→Prop}(hn:Fr n nn n'){cf:cI}(hcf:r_ P F cf){f:Nat}{vals:List V}{lend:List Nat}{thaw:List (Nat×Nat)}(hth:∀p∈thaw,p.1<15)
  {xs:Array Value} (hx:vals.length=xs.size) (hr:∀(i:Nat) (v:V) (x:Value),vals[i]? =some v→xs[i]? =some x→kQ (cx F Pr E o w) v x) {v:V} {gf:List (Nat×Ob)}
  (h:gh cf nn o f vals lend thaw=some (v,gf)):yf P F f=true∧Calls P (F f) xs w fun e w'=>∃val E',e= .returned val∧Rel F Pr w0 lb N E' n' t (gf++o) a w'∧kQ (cx F Pr E' (gf++o) w') v val:=by
 unfold gh at h;split at h
 ·cases h
 rename_i as ls B hargs;split at h;rotate_left
 ·cases h
 rename_i hcond;obtain⟨h1000,hdisj,hnd⟩:=hcond;split at h
 ·cases h
 rename_i res after hres;split at h;rotate_left
 ·cases h
 rename_i ups1 v' ups2 hlb hbk;split at h;rotate_left
 ·cases h
 rename_i hflat;simp only[aH,aR] at h;obtain⟨rfl,rfl⟩:=h;obtain⟨hlen,hls,hk⟩:=za hargs (by omega);have hlo:∀l∈ls,tr o l:=fun l hl=>(hls l hl).2
 obtain⟨hokf,hcalls⟩:=hcf f as (mf ls) res after hres;refine⟨hokf, ?_⟩
 let Pr':Nat→Prop:=fun bk=>(cx F Pr E o w).U bk∧¬LB E o ls bk∧∀id∈B,¬Bo E o id bk
 have hX0:∀bk,(cx F Pr' (rB E o ls) (mf ls) w).U bk→LB E o ls bk∨Pr' bk:=by
  rintro bk (⟨id,ob,cap,sz,g1,_,g3⟩|hpr)
  ·exact .inl ((o9 hk hlo bk).1 ⟨id,ob,cap,sz,g1,g3⟩)
  ·exact .inr hpr
 have hBL:∀id∈B,∀l∈ls,l.2.1≠id:=by
  intro id hid l hl e;simp only[fL] at hdisj;have:=hdisj l.2.1 (List.mem_map.2 ⟨l,hl,rfl⟩);rw[e] at this;simp at this;exact this hid
 have D:Reads F Pr E o w B (cx F Pr' (rB E o ls) (mf ls) w):=by
  refine⟨rfl,rfl, ?_, ?_⟩
  ·intro bk hu h;rcases hX0 bk h with h|h
   ·exact hu (GZ hlo h)
   ·exact hu h.1
  ·intro id hid bk hb h;rcases hX0 bk h with h|h
   ·obtain⟨l,hl,ob',cap',sz',q1,q2⟩:=h;obtain⟨ob,cap,sz,q3,q4⟩:=hb;exact hBL id hid l hl (R.pA _ _ ob' ob bk cap' sz' cap sz q1 q3 q2 q4)
   ·exact h.2.2 id hid hb
 have hE0:∀l∈ls,∀ob,get o l.2.1=some ob→(cx F Pr' (rB E o ls) (mf ls) w).E l.1=E ob.ct:=fun l hl ob hg=>uj hk hl hg
 obtain⟨_,hargsR⟩:=wk R D (xs:=xs.toList) hargs (by simpa using hx) (fun i v x h1 h2=>hr i v x h1 (by simpa using h2)) (fun id h=>h) hE0;have entry:Entry F Pr' (rB E o ls) as (mf ls) xs w:=by
  refine⟨by rw[hlen];exact hx,fun i v x h1 h2=>hargsR i v x h1 (by simpa using h2), ?_, ?_, ?_, ?_, ?_⟩
  ·intro p ob hg;obtain⟨l,hl,rfl,rfl⟩:=mT (fun l=>l.2.2) hg;obtain⟨b,loc,k1,k2,k3⟩:=FD R D (hlo l hl);obtain⟨b',g1,g2,g3,g4,g5,_⟩:=hlo l hl;have:=(hls l hl).1;simp only[vR] at this;exact⟨g3,⟨by simp only[om,Bool.or_eq_true,decide_eq_true_eq];omega,by omega⟩,g5,loc,by rw[uj hk hl k1];exact k2,k3⟩
  ·intro p ob bk cap sz hg hE;obtain⟨l,hl,b,c,s,k1,k2⟩:=(o9 hk hlo bk).1 ⟨p,ob,cap,sz,hg,hE⟩;exact(R.place _ b bk c s k1 k2).1
  ·intro p p' ob ob' bk cap sz cap' sz' hg hg' hE hE';obtain⟨l,hl,rfl,rfl⟩:=mT (fun l=>l.2.2) hg;obtain⟨l',hl',rfl,rfl⟩:=mT (fun l=>l.2.2) hg';obtain⟨b,g1,_,g3,_⟩:=hlo l hl;obtain⟨b',g1',_,g3',_⟩:=hlo l' hl';rw[g3,uj hk hl g1] at hE;rw[g3',uj hk hl' g1'] at hE';have:=R.pA _ _ b b' bk cap sz cap' sz' g1 g1' hE hE';rw[oX (f:=fun l=>l.2.1) hnd hl hl' this]
  ·intro ct l hE;unfold rB at hE;split at hE
   ·rename_i id hid;obtain⟨l,hl,rfl,_⟩:=mT (fun l=>l.2.1) hid;have:=(hls l hl).1;simp only[vR] at this;omega
   ·cases hE
  ·refine⟨fun bk hb=>⟨Kr R hb.1,fun q=>hb.2.1 ((o9 hk hlo bk).1 q)⟩, ?_⟩;rcases R.pr.2 with g0|⟨g1,g2,m,g3⟩
   ·exact .inl g0
   ·refine .inr ⟨Nat.lt_of_lt_of_le g1 R.size,fun q=> ?_,m,by rw[Ed (R.frame _ g1 g2)];exact g3⟩;obtain⟨l,hl,b,c,s,k1,k2⟩:=(o9 hk hlo _).1 q;rcases (R.place _ b _ c s k1 k2).2 with z|z
    ·exact absurd g1 (Nat.not_lt.2 z)
    ·exact g2 z
 refine(hcalls Pr' (rB E o ls) xs w entry).mono ?_;rintro e w' ⟨val,E',own,rfl,Bk⟩
 let E2:Nat→Option Loc:=fun v=>if v=nn+15 then some .nil else if nn≤v∧v<nn+16 then(get thaw (v-nn)).bind (fun _=>own (v-nn)) else E v
 refine⟨val,E2,rfl, ?_⟩;have hEold:∀ct l,E ct=some l→E2 ct=some l:=by
  intro ct l h;have hne:¬(nn≤ct∧ct<nn+16):=fun q=>hn.new ct q.1 q.2 (R.fresh ct l h)
  simp only[E2];rw[if_neg (by omega),if_neg hne];exact h
 have hEobj:∀id ob,get o id=some ob→E2 ob.ct=E ob.ct:=by
  intro id ob h;have hne:¬(nn≤ob.ct∧ob.ct<nn+16):=fun q=>hn.new ob.ct q.1 q.2 (R.oc id ob h).1
  simp only[E2];rw[if_neg (by omega),if_neg hne]
 have hEown:∀q id,get thaw q=some id→E2 (nn+q)=own q:=by
  intro q id h;have hq16:=hth _ (get_mem h);simp only at hq16;simp only[E2];rw[if_neg (by omega),if_pos (by omega),show nn+q-nn=q from by omega,h];rfl
 have hE15:E2 (nn+15)=some .nil:=if_pos rfl;obtain⟨hlb1,hlb2⟩:=vv hlb;have hcls:∀id ob2,get ((ups1++ups2)++o) id=some ob2→get ups1 id=some ob2∨(get ups2 id=some ob2)∨(get o id=some ob2∧∀l∈ls,l.2.1≠id):=by
  intro id ob2 hg;rw[get_append,get_append] at hg;cases h1:get ups1 id with
  |some x=>rw[h1] at hg;simp at hg;exact .inl (by rw[hg])
  |none=>
   cases h2:get ups2 id with
   |some x=>rw[h1,h2] at hg;simp at hg;exact .inr (.inl (by rw[hg]))
   |none=>
    rw[h1,h2] at hg;simp at hg;refine .inr (.inr ⟨hg,fun l hl e=> ?_⟩);obtain⟨ob,hob⟩:=hlb2 l hl;rw[e,h1] at hob;cases hob
 have C8:∀l∈ls,get (mf ls) l.1=some l.2.2:=fun l hl=>te hk (fun l=>l.2.2) hl
 have hNotL:∀id ob bk cap sz,get o id=some ob→E ob.ct=some (.kP bk cap sz)→(∀l∈ls,l.2.1≠id)→¬LB E o ls bk:=by
  rintro id ob bk cap sz h1 h2 h3 ⟨l,hl,ob',cap',sz',q1,q2⟩;exact h3 l hl (R.pA _ _ ob' ob bk cap' sz' cap sz q1 h1 q2 h2)
 have hLBlt:∀bk,LB E o ls bk→bk<w.heap.size:=fun bk h=>Kr (Pr:=Pr) R (GZ hlo h)
 let LBk:Nat→Prop:=fun bk=>∃l∈ls,get after l.1≠none∧Bo E o l.2.1 bk
 have hLBk:∀bk,LBk bk→LB E o ls bk:=fun bk ⟨l,hl,_,h⟩=>⟨l,hl,h⟩
 have hpre:∀(T2:List (Nat×Ob)),(∀u∈T2,∃q l,get thaw q=some u.1∧own q=some l∧u.2.ct=nn+q)→(∀id ob2,get ((ups1++T2)++o) id=some ob2→get ups1 id=some ob2∨(get T2 id=some ob2)∨(get o id=some ob2∧∀l∈ls,l.2.1≠id))→
   ∀bk,(cx F Pr E2 ((ups1++T2)++o) w').U bk→LBk bk∨(∃q cap sz id,get thaw q=some id∧own q=some (.kP bk cap sz))∨((cx F Pr E o w).U bk∧¬LB E o ls bk):=by
  rintro T2 hT hc bk (⟨id,ob,cap,sz,g1,g2,g3⟩|hpr)
  ·rcases hc id ob g1 with h|h|⟨h,h'⟩
   ·obtain⟨l,hl,b,e1,e3,e4⟩:=hlb1 (id,ob) (get_mem h);simp only at e1 e3 e4;cases e2:get after l.1 with
    |none=>
     rw[e2] at e4;subst e4;simp only[q9] at g3;rw[hE15] at g3;cases g3
    |some b'=>
     rw[e2] at e4;subst e4;refine .inl ⟨l,hl,by rw[e2];simp,b,cap,sz,by rw[e1];exact e3, ?_⟩;rw[←hEobj id b e3];exact g3
   ·obtain⟨q,l,e1,e2,e3⟩:=hT (id,ob) (get_mem h);simp only at e1 e3;rw[e3,hEown q id e1] at g3;exact .inr (.inl ⟨q,cap,sz,id,e1,g3⟩)
   ·rw[hEobj id ob h] at g3;exact .inr (.inr ⟨.inl ⟨id,ob,cap,sz,h,g2,g3⟩,hNotL id ob bk cap sz h g3 h'⟩)
  ·refine .inr (.inr ⟨.inr hpr, ?_⟩);rintro ⟨l,hl,ob',cap',sz',q1,q2⟩;have h1:=R.pr.1 bk hpr;rcases (R.place _ ob' bk cap' sz' q1 q2).2 with q|q
   ·omega
   ·exact h1.2 q
 have hhl:∀Y:Cx,Y.E=E2→∀p id ct,get (ls.map fun l=>(l.1,l.2.1,(get o l.2.1).elim 0 (·.ct))) p=some (id,ct)→∃ob,get (mf ls) p=some ob∧∀l,(rx F Pr' (rB E o ls) (mf ls) E' own w').E p=some l→Y.E ct=some l:=by
  intro Y hY p id ct hg;obtain⟨l,hl,rfl,e⟩:=mT (fun l=>(l.2.1,(get o l.2.1).elim 0 (·.ct))) hg;obtain⟨b,g1,_⟩:=hlo l hl;simp only[g1,Option.elim_some,aR] at e;obtain⟨rfl,rfl⟩:=e;refine⟨_,C8 l hl,fun loc hloc=> ?_⟩;obtain⟨_,loc',h1,_⟩:=R.oc _ b g1;have h2:=Bk.ext l.1 loc' (by rw[uj hk hl g1];exact h1);rw[show (rx F Pr' (rB E o ls) (mf ls) E' own w').E=E' from rfl,h2] at hloc;cases hloc;rw[hY];exact hEold _ _ h1
 have hfl:ug (rx F Pr' (rB E o ls) (mf ls) E' own w') {w:=w',U:=fun _=>False,E:=E2,F:=F}∨(!B.isEmpty)=true:=
  .inl (AA (by rfl) (fun ad v _ hcell=>⟨hcell,fun h=>h⟩))
 have hfl2:(!B.isEmpty)=true→res.flat=true:=by
  intro hb;rcases hflat with q|q
  ·rw[q] at hb;cases hb
  ·exact q.1
 have hthaw:=(Dk (X:=rx F Pr' (rB E o ls) (mf ls) E' own w') (Y:={w:=w',U:=fun _=>False,E:=E2,F:=F}) (own:=own) (lent:=mf ls) ⟨rfl,fun q id h=>hEown q id h,fun _ _ _ _ _ _ h=>h,hhl _ rfl⟩ hfl hfl2 hbk Bk.res).2;have hU:=hpre ups2 (fun u hu=>by obtain⟨q,l,h1,h2,h3,_⟩:=hthaw u hu;exact⟨q,l,h1,h2,h3⟩) hcls;have hLX:∀bk,LB E o ls bk→(rx F Pr' (rB E o ls) (mf ls) E' own w').U bk:=fun bk h=> .inl ((o9 hk hlo bk).2 h)
 have hmv:ug (rx F Pr' (rB E o ls) (mf ls) E' own w') (cx F Pr E2 ((ups1++ups2)++o) w')∨(!B.isEmpty)=true:=by
  cases hB:B with
  |cons x xs=>exact .inr rfl
  |nil=>
   refine .inl (AA (by rfl) (fun ad v hu hcell=>⟨hcell,fun h=>hu ?_⟩));rcases hU _ h with h|⟨q,cap,sz,id,_,h⟩|⟨h1,h2⟩
   ·exact hLX _ (hLBk _ h)
   ·exact .inr (.inr ⟨q,cap,sz,h⟩)
   ·exact .inr (.inl ⟨h1,h2,by rw[hB];intro id hid;simp at hid⟩)
 have hgone:∀b,(∃p ob cap' sz',get (mf ls) p=some ob∧get after p=none∧rB E o ls ob.ct=some (.kP b cap' sz'))→∃l∈ls,get after l.1=none∧Bo E o l.2.1 b:=by
  rintro b ⟨p,ob,cap',sz',h1,h2,h3⟩;obtain⟨l,hl,rfl,rfl⟩:=mT (fun l=>l.2.2) h1;obtain⟨b',hg',_,hver,_⟩:=hlo l hl;rw[hver,uj hk hl hg'] at h3;exact⟨l,hl,h2,b',cap',sz',hg',h3⟩
 have H:Home (rx F Pr' (rB E o ls) (mf ls) E' own w') (cx F Pr E2 ((ups1++ups2)++o) w') own (mf ls) nn (ls.map fun l=>(l.1,l.2.1,(get o l.2.1).elim 0 (·.ct))) thaw:=by
  refine⟨rfl,fun q id h=>hEown q id h, ?_,hhl _ rfl⟩;intro q b cap sz hq FT h;have hge:=(Bk.fresh q b cap sz FT).1;rcases hU _ h with h|⟨q',cap',sz',id,h1,h2⟩|⟨h1,h3⟩
  ·rcases hge with hge|hge
   ·have:=hLBlt b (hLBk b h);omega
   ·obtain⟨l0,hl0,h0,hb0⟩:=hgone b hge;obtain⟨l,hl,ha,hb⟩:=h;obtain⟨ob1,c1,s1,x1,y1⟩:=hb;obtain⟨ob2,c2,s2,x2,y2⟩:=hb0;have:=R.pA _ _ ob1 ob2 b c1 s1 c2 s2 x1 x2 y1 y2;have:=oX (f:=fun l=>l.2.1) hnd hl hl0 this;rw[this] at ha;exact ha h0
  ·have:=Bk.pA q q' b cap sz cap' sz' FT h2;subst this;rw[hq] at h1;cases h1
  ·rcases hge with hge|hge
   ·have:=Kr R h1;omega
   ·obtain⟨l0,hl0,h0,hb0⟩:=hgone b hge;exact h3 ⟨l0,hl0,hb0⟩
 refine⟨?_,(Dk H hmv hfl2 hbk Bk.res).1⟩;have hframe:∀bk,bk<w.heap.size→¬LB E o ls bk→w'.heap[bk]? =w.heap[bk]? :=fun bk h1 h2=>Bk.frame bk h1 fun h=>h2 ((o9 hk hlo bk).1 h)
 have K:mH (cx F Pr E o w) (cx F Pr E2 ((ups1++ups2)++o) w'):=by
  refine⟨rfl,hEold,fun ad v hu hc=> ?_⟩;have hlt:ad.block<w.heap.size:=zT hc;refine⟨(o4 (hframe _ hlt fun h=>hu (GZ hlo h))).trans hc,fun h=> ?_⟩;rcases hU _ h with h|⟨q,cap,sz,id,_,h⟩|⟨h1,h2⟩
  ·exact hu (GZ hlo (hLBk _ h))
  ·rcases (Bk.fresh q _ cap sz h).1 with z|z
   ·omega
   ·obtain⟨l0,hl0,_,hb0⟩:=hgone _ z;exact hu (GZ hlo ⟨l0,hl0,hb0⟩)
  ·exact hu h1
 have hplace:∀id ob bk cap sz,get ((ups1++ups2)++o) id=some ob→E2 ob.ct=some (.kP bk cap sz)→(∃b,get o id=some b∧b.ct=ob.ct∧E b.ct=some (.kP bk cap sz))∨∃q,get thaw q=some id∧ob.ct=nn+q∧own q=some (.kP bk cap sz):=by
  intro id ob bk cap sz hg hE;rcases hcls id ob hg with h|h|⟨h,_⟩
  ·obtain⟨l,hl,b,e1,e3,e4⟩:=hlb1 (id,ob) (get_mem h);simp only at e1 e3 e4;cases e2:get after l.1 with
   |none=>
    rw[e2] at e4;subst e4;simp only[q9] at hE;rw[hE15] at hE;cases hE
   |some b'=>
    rw[e2] at e4;subst e4;exact .inl ⟨b,e3,rfl,by rw[←hEobj id b e3];exact hE⟩
  ·obtain⟨q,l,h1,h2,h3,_⟩:=hthaw (id,ob) (get_mem h);simp only at h1 h3;rw[h3,hEown q id h1] at hE;exact .inr ⟨q,h1,h3,hE⟩
  ·exact .inl ⟨ob,h,rfl,by rw[←hEobj id ob h];exact hE⟩
 have hdead:∀bk,(∃p ob cap' sz',get (mf ls) p=some ob∧get after p=none∧rB E o ls ob.ct=some (.kP bk cap' sz'))→∀id ob b cap sz cap2 sz2,get ((ups1++ups2)++o) id=some ob→E2 ob.ct=some (.kP bk cap sz)→get o id=some b→E b.ct=some (.kP bk cap2 sz2)→False:=by
  intro bk hz id ob b cap sz cap2 sz2 hg hE h1 h3;obtain⟨l0,hl0,h0,ob2,c2,s2,x2,y2⟩:=hgone bk hz;have hid:=R.pA _ _ b ob2 bk cap2 sz2 c2 s2 h1 x2 h3 y2;subst hid;obtain⟨x,hx⟩:=hlb2 l0 hl0;rw[get_append,get_append,hx] at hg;simp only[Option.some_or,aH] at hg;subst hg;obtain⟨l,hl,b3,e1,e3,e4⟩:=hlb1 (l0.2.1,x) (get_mem hx);simp only at e1 e3 e4;have:=oX (f:=fun l=>l.2.1) hnd hl hl0 e1;rw[this,h0] at e4;subst e4;simp only[q9] at hE;rw[hE15] at hE;cases hE
 refine⟨Bk.os.trans R.os,Bk.tape.trans R.tape,Bk.output.trans R.output,Nat.le_trans R.size Bk.size, ?_,R.defers,R.nt,fun d v hv=>(R.tmps d v hv).mono K, ?_, ?_, ?_, ?_,R.pr,fun v l h=>hEold _ _ (R.ext v l h)⟩
 ·intro bk h1 h2;refine(hframe bk (Nat.lt_of_lt_of_le h1 R.size) ?_).trans (R.frame bk h1 h2);rintro ⟨l,hl,ob',cap',sz',q1,q2⟩;rcases (R.place _ ob' bk cap' sz' q1 q2).2 with q|q
  ·omega
  ·exact h2 q
 ·intro id ob hg;rcases hcls id ob hg with h|h|⟨h,hnl⟩
  ·obtain⟨l,hl,b,e1,e3,e4⟩:=hlb1 (id,ob) (get_mem h);simp only at e1 e3 e4;cases e2:get after l.1 with
   |none=>
    rw[e2] at e4;subst e4;exact⟨hn.add _ (by simp only[q9];omega) (by simp only[q9];omega),.nil,hE15,rfl,rfl⟩
   |some b'=>
   rw[e2] at e4;simp only[q9] at e4;obtain⟨hver,loc,hloc,_⟩:=R.oc id b e3;obtain⟨b2,g1,g2,g3,g4,g5,g6,_⟩:=hlo l hl;rw[e1,e3] at g1;cases g1;obtain⟨k1,k2⟩:=Bk.oc l.1 l.2.2 b' loc (C8 l hl) e2 (by rw[uj hk hl (by rw[e1];exact e3)];exact hloc);subst e4;refine⟨hn.mX _ hver,loc,hEold _ _ hloc, ?_⟩;cases loc with
   |nil=>exact⟨k1.1,by have:=k1.2;simp only at this ⊢;rw[←g6];exact this⟩
   |kP bk cap sz=>
    refine⟨by have:=k1.1;simp only at this ⊢;rw[←g4];exact this,k1.2.move rfl rfl (by simp only;exact g4.symm) (fun _=>k2) fun i j r t v hi ht hv=> ?_⟩;rcases hmv with q|q
    ·exact q _ _ (k2 i j r t hi ht) hv
    ·rcases hflat with q'|q'
     ·rw[q'] at q;cases q
     ·have hall:=q'.2;simp only[fL (l:=ups1)] at hall;exact hv.scalar (tp (hall _ (get_mem h)) hi ht)
  ·obtain⟨q,l,h1,h2,h3,h4,h5,h6,h7⟩:=hthaw (id,ob) (get_mem h);simp only at h1 h3 h4 h5 h6 h7;have hq16:=hth _ (get_mem h1);simp only at hq16;refine⟨by rw[h3];exact hn.add _ (by omega) (by omega),l,by rw[h3,hEown q id h1];exact h2, ?_⟩;cases l with
   |nil=>exact h6
   |kP bk cap sz=>
    refine⟨h6.1,h6.2.move rfl rfl rfl h6.2.cl fun i j r t v hi ht hv=> ?_⟩;rcases hmv with q|q
    ·exact q _ _ (h5 i j r t hi ht) hv
    ·exact hv.scalar (tp (h7 q) hi ht)
  ·obtain⟨hver,loc,hloc,hrl⟩:=R.oc id ob h;refine⟨hn.mX _ hver,loc,hEold _ _ hloc, ?_⟩;cases loc with
   |nil=>exact hrl
   |kP bk cap sz=>exact⟨hrl.1,hrl.2.mono K (hframe bk (R.place id ob bk cap sz h hloc).1 (hNotL id ob bk cap sz h hloc hnl))⟩
 ·intro id ob bk cap sz hg hE;rcases hplace id ob bk cap sz hg hE with⟨b,h1,h2,h3⟩|⟨q,h1,h2,h3⟩
  ·obtain⟨q1,q2⟩:=R.place id b bk cap sz h1 h3;exact⟨Nat.lt_of_lt_of_le q1 Bk.size,q2⟩
  ·obtain⟨q1,q2⟩:=Bk.fresh q bk cap sz h3;refine⟨q2, ?_⟩;rcases q1 with q1|q1
   ·exact .inl (Nat.le_trans R.size q1)
   ·obtain⟨l0,hl0,_,ob2,c2,s2,x2,y2⟩:=hgone bk q1;exact(R.place _ ob2 bk c2 s2 x2 y2).2
 ·intro id id' ob ob' bk cap sz cap' sz' hg hg' hE hE';rcases hplace id ob bk cap sz hg hE with⟨b,h1,h2,h3⟩|⟨q,h1,h2,h3⟩<;>rcases hplace id' ob' bk cap' sz' hg' hE' with⟨b',h1',h2',h3'⟩|⟨q',h1',h2',h3'⟩
  ·exact R.pA id id' b b' bk cap sz cap' sz' h1 h1' h3 h3'
  ·have q1:=(R.place id b bk cap sz h1 h3).1;rcases (Bk.fresh q' bk cap' sz' h3').1 with q2|q2
   ·omega
   ·exact(hdead bk q2 id ob b cap sz cap sz hg hE h1 h3).elim
  ·have q1:=(R.place id' b' bk cap' sz' h1' h3').1;rcases (Bk.fresh q bk cap sz h3).1 with q2|q2
   ·omega
   ·exact(hdead bk q2 id' ob' b' cap' sz' cap' sz' hg' hE' h1' h3').elim
  ·have:=Bk.pA q q' bk cap sz cap' sz' h3 h3';subst this;rw[h1] at h1';exact Option.some.inj h1'
 ·intro ct l hE;simp only[E2] at hE;split at hE
  ·rename_i hr;exact hn.add _ (by omega) (by omega)
  ·split at hE
   ·rename_i hr;exact hn.add _ hr.1 hr.2
   ·exact hn.mX _ (R.fresh ct l hE)
end Mx
namespace Mx
open Go
variable {P:Program} {F:Nat→FuncId} {Pr:Nat→Prop} {w0:World} {lb:Lb} {N:Nat} {E:Nat→Option Loc} {n:Nat→Prop} {t:List (Nat×V)} {o:List (Nat×Ob)} {a:Act} {w:World}
def BB:MO→Bool
 | .call _ _ _ thaw=>thaw.all fun p=>decide (p.1<15)
 |_=>true
def pN(P:Program)(F:Nat→FuncId):MO→Op→Bool
 | .eqs neg ks x y,op=>HB P F neg ks x y op
 |m,.call c=>sP P F m c&&BB m
 |m,op=>gF P F m op
def zu(ops:Array Oper):Option (Nat×Bool)→Option (Nat×Bool)→Bool
 |none,none=>true
 |some (g,b),some (j,b')=>b==b'&&((ops[j]?).bind (·.dst)==some g)
 |_,_=>false
def C0(P:Program)(F:Nat→FuncId)(N:Nat)(ops:Array Oper)(m:og)(x:Oper):Bool:=
 (m.dst==x.dst)&&(match x.dst with|some d=>decide (d<N)|none=>true)&&zu ops m.guard x.guard&&pN P F m.op x.op
theorem cZ{n':Nat→Prop}{oper:Oper}{v:V}{gf:List (Nat×Ob)}(h:qv P F Pr w0 lb N n' t o a w oper v gf){next:Act→World→Prop}{Q:Exit→Act→World→Prop}
  (hnext:∀E' val w',Rel F Pr w0 lb N E' n' t (gf++o) a w'→kQ (cx F Pr E' (gf++o) w') v val→next (a.put oper.dst val) w'):oper.wp P a w next Q:=by
 obtain⟨val,w',E',hran,R,hv⟩:=h;have:=hnext E' val w' R hv;unfold Oper.wp;rcases hran with h|⟨h,rfl⟩
 ·rw[h];exact this
 ·rw[h];exact this
theorem uZ(f:FuncId)(xs:Array Value){n':Nat→Prop}{oper:Oper}{v:V}{gf:List (Nat×Ob)}(he:(execOp a.eval oper).run P w= .ok (.enter f xs) w)
  (h:Calls P f xs w fun e w'=>∃val E',e= .returned val∧Rel F Pr w0 lb N E' n' t (gf++o) a w'∧kQ (cx F Pr E' (gf++o) w') v val) {next:Act→World→Prop} {Q:Exit→Act→World→Prop}
  (hnext:∀E' val w',Rel F Pr w0 lb N E' n' t (gf++o) a w'→kQ (cx F Pr E' (gf++o) w') v val→next (a.put oper.dst val) w'):oper.wp P a w next Q:=by
 unfold Oper.wp;rw[he,Oper.upon_enter];refine h.mono ?_;rintro e w' ⟨val,E',rfl,R,hv⟩;exact hnext E' val w' R hv
theorem Ax{f:Nat}(h:yf P F f=true)(xs:Array Value)(w:World):(callFunc (F f) xs).run P w= .ok (.enter (F f) xs) w:=by
 unfold yf at h;split at h
 ·rename_i fn hfn;simp only[aj,bne_iff_ne,ne_eq,Option.isSome_iff_exists] at h;obtain⟨h1,b,hb⟩:=h;simp[callFunc,hfn,h1,hb]
 ·cases h
theorem uD(R:Rel F Pr w0 lb N E n t o a w):∀{xs:List O} {ys:List Operand} {vs:List V},vW F xs ys=true→h_ (look t) xs=some vs→
  vs.length=ys.length∧∀(i:Nat) (v:V) (x:Value),vs[i]? =some v→(ys.map a.eval)[i]? =some x→kQ (cx F Pr E o w) v x
 |[],[],vs,_,h=>by simp[h_] at h;subst h;exact⟨rfl,fun i v x h=>by simp at h⟩
 |x::xs,y::ys,vs,hok,h=>by
  simp only[vW,aj] at hok;simp only[h_] at h;split at h
  ·rename_i v vs' h1 h2;cases h;obtain⟨i1,i2⟩:=uD R hok.2 h2;refine⟨by simp[i1],fun i u z hu hz=> ?_⟩;cases i with
   |zero=>simp at hu hz;subst hu hz;exact lC R hok.1 h1
   |succ i=>exact i2 i u z (by simpa using hu) (by simpa using hz)
  ·cases h
 |[],_::_,_,hok,_=>by simp[vW] at hok
 |_::_,[],_,hok,_=>by simp[vW] at hok
theorem Fw{m:MO}{op:Op}(h:pN P F m op=true)(hne:∀c,op≠.call c)(hm:∀neg ks x y,m≠.eqs neg ks x y):gF P F m op=true:=by
 unfold pN at h;split at h
 ·exact(hm _ _ _ _ rfl).elim
 ·exact(hne _ rfl).elim
 ·exact h
theorem GC(R:Rel F Pr w0 lb N E n t o a w){nn:Nat}{n':Nat→Prop}(hn:Fr n nn n'){cf:cI}(hcf:r_ P F cf){d:Nat}{m:MO}{oper:Oper}(hok:pN P F m oper.op=true){v:V}{gf:List (Nat×Ob)}
  (h:act cf nn d t o m=some (v,gf)) {next:Act→World→Prop} {Q:Exit→Act→World→Prop}
  (hnext:∀E' val w',Rel F Pr w0 lb N E' n' t (gf++o) a w'→kQ (cx F Pr E' (gf++o) w') v val→next (a.put oper.dst val) w'):oper.wp P a w next Q:=by
 by_cases hc:∃c,oper.op= .call c
 ·obtain⟨c,hop⟩:=hc;rw[hop] at hok;cases m with
  |eqs neg ks x y=>exact cZ (Dt R hn (oper:=oper) (by rw[hop];exact hok) h) hnext
  |len x=>simp only[pN,aj] at hok;exact cZ (IY R hn hop hok.1 h) hnext
  |ky x=>simp only[pN,aj] at hok;exact cZ (Gy R hn hop hok.1 h) hnext
  |app sz bytes x y=>simp only[pN,aj] at hok;exact cZ (I8 R hn hop hok.1 h) hnext
  |yk sz bytes x y=>simp only[pN,aj] at hok;exact cZ (GJ R hn hop hok.1 h) hnext
  |EH zero x=>simp only[pN,aj] at hok;exact cZ (I3 R hn hop hok.1 h) hnext
  |max x y=>simp only[pN,aj] at hok;exact cZ (IX R hn hop hok.1 h) hnext
  |min x y=>simp only[pN,aj] at hok;exact cZ (IW R hn hop hok.1 h) hnext
  |call f as lend thaw=>
   simp only[pN,aj,BB,fL,decide_eq_true_eq] at hok;obtain⟨hok,hth⟩:=hok;simp only[sP] at hok;split at hok
   ·simp[okB] at hok
   ·rename_i g hg;simp only[aj] at hok;simp only[act] at h;split at h
    ·rename_i vals hvals;obtain⟨k1,k2⟩:=uD R hok.2 hvals;have hval:a.eval g= .func (.func (F f)) #[] #[]:=by
      have:=hok.1;unfold m7 at this;split at this<;>first|(cases this;done)|skip
      all_goals simp_all[Act.eval]
     obtain⟨hf,hcalls⟩:=Di R hn hcf (xs:=c.args.map a.eval) hth (by simpa using k1) (fun i v x h1 h2=>k2 i v x h1 (by simpa using h2)) h;refine uZ (F f) (c.args.map a.eval) ?_ hcalls hnext;simp[execOp,hop,resolve,hg,hval,Deferred.ofValue,invoke,Ax hf]
    ·cases h
   ·cases hok
  |oO x as=>
   simp only[pN,aj,BB,and_true] at hok;simp only[sP] at hok;split at hok
   ·simp[okB] at hok
   ·rename_i g hg;simp only[aj] at hok;simp only[act] at h;split at h
    ·rename_i f caps vals hx hvals;obtain⟨k1,k2⟩:=uD R hok.2 hvals;have hr:=fw R hok.1 hx;generalize hval:a.eval g=val at hr;cases hr with
     |fn _ _ cs hn' hrep=>
      have hlen:vals.length=c.args.size:=by simpa using k1
      obtain⟨hf,hcalls⟩:=Di R hn hcf (xs:=c.args.map a.eval++cs) (thaw:=[]) (by simp) (by simp[hlen,hn']) (fun i v x h1 h2=>by
       rw[dB] at h1;rw[Array.getElem?_append] at h2;simp only[Array.size_map,←hlen] at h2;split at h1
       ·rename_i hi;rw[if_pos hi] at h2;exact k2 i v x h1 (by simpa using h2)
       ·rename_i hi;rw[if_neg hi] at h2;rw[iM,al] at h1;obtain⟨q,hq,rfl⟩:=h1;exact .c _ _ (hrep _ q x hq h2)) h
      refine uZ (F f) (c.args.map a.eval++cs) ?_ hcalls hnext;simp[execOp,hop,resolve,hg,hval,Deferred.ofValue,invoke];rw[show (cx F Pr E o w).F f=F f from rfl];simp[Ax hf]
    ·cases h
   ·cases hok
  |_=>
   simp only[pN,aj,sP] at hok;exfalso;obtain⟨hok,_⟩:=hok;revert hok;split<;>simp[okB]
 ·have hne:∀c,oper.op≠.call c:=fun c e=>hc ⟨c,e⟩
  have hop:=fun hm=>Fw hok hne hm
  cases m with
  |eqs neg ks x y=>exact cZ (Dt R hn (oper:=oper) hok h) hnext
  |np=>exact cZ (Kp R hn (hop (by intros;exact MO.noConfusion)) h) hnext
  |mv x=>exact cZ (Kq R hn (hop (by intros;exact MO.noConfusion)) h) hnext
  |nil z=>exact cZ (IS R hn (hop (by intros;exact MO.noConfusion)) h) hnext
  |pick c x y=>exact cZ (GB R hn (hop (by intros;exact MO.noConfusion)) h) hnext
  |alloc z=>exact cZ (Et R hn (hop (by intros;exact MO.noConfusion)) h) hnext
  |box x=>exact cZ (I4 R hn (hop (by intros;exact MO.noConfusion)) h) hnext
  |build z ps=>exact cZ (Es R hn (hop (by intros;exact MO.noConfusion)) h) hnext
  |bF sz l z ps=>exact cZ (CE R hn (hop (by intros;exact MO.noConfusion)) h) hnext
  |A3 sz l z ps=>exact cZ (GI R hn (hop (by intros;exact MO.noConfusion)) h) hnext
  |load ag k x=>exact cZ (GG R hn (hop (by intros;exact MO.noConfusion)) h) hnext
  |store k x y=>exact cZ (Eo R hn (hop (by intros;exact MO.noConfusion)) (fun h1 h2=>⟨zS R h1 h2,th R h1 h2⟩) h) hnext
  |bin op x y=>exact cZ (I5 R hn (hop (by intros;exact MO.noConfusion)) h) hnext
  |beq ng x y=>exact cZ (I6 R hn (hop (by intros;exact MO.noConfusion)) h) hnext
  |not x=>exact cZ (IQ R hn (hop (by intros;exact MO.noConfusion)) h) hnext
  |neg x=>exact cZ (IT R hn (hop (by intros;exact MO.noConfusion)) h) hnext
  |ry k x=>exact cZ (I0 R hn (hop (by intros;exact MO.noConfusion)) h) hnext
  |EI x=>exact cZ (I7 R hn (hop (by intros;exact MO.noConfusion)) h) hnext
  |EE sz b z x=>exact cZ (IU R hn (hop (by intros;exact MO.noConfusion)) h) hnext
  |KI sz b z x y=>exact cZ (IV R hn (hop (by intros;exact MO.noConfusion)) h) hnext
  |oB x lo hi=>exact cZ (Gx R hn (hop (by intros;exact MO.noConfusion)) h) hnext
  |yc sz x lo hi=>exact cZ (Gz R hn (hop (by intros;exact MO.noConfusion)) h) hnext
  |wL sz x lo hi mx=>exact cZ (IP R hn (hop (by intros;exact MO.noConfusion)) h) hnext
  |bN off x=>exact cZ (Er R hn (hop (by intros;exact MO.noConfusion)) h) hnext
  |kG sz x ix=>exact cZ (Ep R hn (hop (by intros;exact MO.noConfusion)) h) hnext
  |idx x ix=>exact cZ (IZ R hn (hop (by intros;exact MO.noConfusion)) h) hnext
  |Ir ag off k x=>exact cZ (I1 R hn (hop (by intros;exact MO.noConfusion)) h) hnext
  |ext i x=>exact cZ (I2 R hn (hop (by intros;exact MO.noConfusion)) h) hnext
  |tL f cs=>exact cZ (GF R hn (hop (by intros;exact MO.noConfusion)) h) hnext
  |lq x=>exact cZ (GD R hn (hop (by intros;exact MO.noConfusion)) h) hnext
  |_=>have:=hop (by intros;exact MO.noConfusion);revert this;unfold gF;split<;>simp_all
theorem sa(R:Rel F Pr w0 lb N E n t o a w){ops:Array Oper}{g:Option (Nat×Bool)}{x:Oper}(h:zu ops g x.guard=true){b:Bool}(hw:wanted t g=some b):Region.wanted x (yielded ops a.tmps)=b:=by
 unfold zu at h;split at h
 ·rename_i h1 h2;simp only[wanted,aH] at hw;subst hw;simp[Region.wanted,h2]
 ·rename_i h1 h2 g b1 j b2 hx;simp only[aj,beq_iff_eq] at h;obtain⟨rfl,hd⟩:=h;simp only[wanted] at hw;simp only[Region.wanted,hx,yielded,hd,Option.bind_some];split at hw
  ·rename_i v hv;cases hw;have:=(R.tmps g _ hv).xQ.uf;rw[dv] at this;cases hq:a.tmps[g]? with
   |none=>rw[hq] at this;simp[undef] at this
   |some u=>rw[hq] at this;simp at this;subst this;simp
  ·rename_i hv;cases hw;have:=R.tmps g _ hv;cases this with
   |undef _ hb=>
    rw[dv] at hb;cases hq:a.tmps[g]? with
    |none=>simp
    |some u=>
     rw[hq] at hb;simp only[jU] at hb;cases u with
     |bool v=>exact(hb v rfl).elim
     |_=>simp
  ·cases hw
 ·cases h
end Mx
namespace Mx
open Go
def Sub(o o':List (Nat×Ob)):Prop:=∀id b,get o id=some b→get o' id=some b
variable {o o':List (Nat×Ob)}
theorem mR{α β:Type}{f g:α→Option β}(h:∀x y,f x=some y→g x=some y):∀{l:List α} {r:List β},h_ f l=some r→h_ g l=some r
 |[],r,hm=>hm
 |x::l,r,hm=>by
  simp only[h_] at hm ⊢;split at hm
  ·rename_i y ys h1 h2;rw[h x y h1,mR h h2];exact hm
  ·cases hm
theorem wg(S:Sub o o'){t y:T}(h:sV o t=some y):sV o' t=some y∧wr o' t=wr o t:=by
 cases t with
 |row id ct off len=>
  simp only[sV] at h ⊢;split at h
  ·rename_i b hg;rw[S id b hg];exact⟨h,by simp only[wr,hg,S id b hg]⟩
  ·cases h
 |ptr=>simp[sV] at h
 |fn=>simp[sV] at h
 |_=>exact⟨h,rfl⟩
theorem zR(S:Sub o o'){t y:T}(h:cl o t=some y):cl o' t=some y:=by
 cases t with
 |ptr=>simp[cl] at h
 |vp=>simp[cl] at h
 |fn=>simp[cl] at h
 |row id ct off len=>
  simp only[cl] at h ⊢;split at h
  ·rename_i hw;obtain⟨h1,h2⟩:=wg S h;rw[h2,if_pos hw];exact h1
  ·cases h
 |_=>exact h
theorem zK(S:Sub o o'){t y:T}(h:FR o t=some y):FR o' t=some y∧Dw o' t=Dw o t:=by
 cases t with
 |ptr id ct i j=>
  simp only[FR] at h ⊢;split at h
  ·rename_i b hg;rw[S id b hg];split at h
   ·rename_i hv;split at h
    ·rename_i r hr;rw[al] at h;obtain⟨cells,hm,rfl⟩:=h;simp only[hv,if_true,hr];refine⟨?_, ?_⟩
     ·rw[mR (fun x y hx=>(wg S hx).1) hm];rfl
     ·simp only[Dw,hg,S id b hg,hr,wr];congr 1;have:∀x∈r,wr o' x=wr o x:=by
       intro x hx;obtain⟨k,hk⟩:=List.getElem?_of_mem hx;obtain⟨z,_,hz⟩:=uE hm hk;exact(wg S hz).2
      clear hm hr
      induction r with
      |nil=>rfl
      |cons x r ih=>simp only[cj];rw[this x (by simp),ih (fun z hz=>this z (by simp[hz]))]
    ·cases h
   ·cases h
  ·cases h
 |_=>simp only[FR,Dw] at h ⊢;exact wg S h
theorem uK(S:Sub o o'){t y:T}(h:im o t=some y):im o' t=some y∧Bq o' t=Bq o t:=by
 cases t with
 |fn f caps=>
  simp only[im,al] at h ⊢;obtain⟨cs,hm,rfl⟩:=h;refine⟨⟨cs,mR (fun x y hx=>(zK S hx).1) hm,rfl⟩, ?_⟩;simp only[Bq];have:∀x∈caps,Dw o' x=Dw o x:=by
   intro x hx;obtain⟨k,hk⟩:=List.getElem?_of_mem hx;obtain⟨z,_,hz⟩:=uE hm hk;exact(zK S hz).2
  clear hm
  induction caps with
  |nil=>rfl
  |cons x r ih=>simp only[cj];rw[this x (by simp),ih (fun z hz=>this z (by simp[hz]))]
 |_=>simp only[im,Bq] at h ⊢;exact zK S h
theorem C7(S:Sub o o'){v y:V}(h:v.im o=some y):v.im o'=some y∧v.wr o'=v.wr o:=by
 cases v with
 |c t=>
  simp only[V.im,al] at h ⊢;obtain⟨z,hz,rfl⟩:=h;exact⟨⟨z,(uK S hz).1,rfl⟩,(uK S hz).2⟩
 |a ts=>
  simp only[V.im,al] at h ⊢;obtain⟨zs,hz,rfl⟩:=h;refine⟨⟨zs,mR (fun x y hx=>(uK S hx).1) hz,rfl⟩, ?_⟩;simp only[V.wr];have:∀x∈ts,Bq o' x=Bq o x:=by
   intro x hx;obtain⟨k,hk⟩:=List.getElem?_of_mem hx;obtain⟨z,_,hz⟩:=uE hz hk;exact(uK S hz).2
  clear hz
  induction ts with
  |nil=>rfl
  |cons x r ih=>simp only[cj];rw[this x (by simp),ih (fun z hz=>this z (by simp[hz]))]
 |lM=>simp[V.im] at h
 |undef=>simp[V.im] at h
theorem DT(S:Sub o o'){t:T}{r:List T×Nat}(h:place o t=some r):place o' t=some r:=by
 cases t with
 |ptr id ct i j=>
  simp only[place] at h ⊢;split at h
  ·rename_i b hg;rw[S id b hg];exact h
  ·cases h
 |_=>exact h
theorem qF(S:Sub o o'){t:T}{r:List (List T)}(h:rowsOf o t=some r):rowsOf o' t=some r∧tz o' t=tz o t:=by
 cases t with
 |row id ct off len=>
  simp only[rowsOf] at h ⊢;split at h
  ·rename_i b hg;rw[S id b hg];exact⟨h,by simp only[tz,hg,S id b hg]⟩
  ·cases h
 |_=>exact⟨h,rfl⟩
theorem yz(S:Sub o o'){sz:Nat}{t:T}{r:List (List T)}(h:vf o sz t=some r):vf o' sz t=some r:=by
 cases t with
 |str s=>exact h
 |_=>
  simp only[vf] at h ⊢;split at h
  ·rename_i ys hy;rw[(qF S hy).1,(qF S hy).2];exact h
  ·cases h
theorem vw(S:Sub o o'){p:Nat}{v:V}{r:V×Nat×Ob}(h:nF o p v=some r):nF o' p v=some r:=by
 unfold nF at h ⊢;split at h
 ·split at h
  ·rename_i b hg;rw[S _ b hg];simp only;split at h
   ·rename_i hc;rw[if_pos hc];rw[al] at h ⊢;obtain⟨rows,hm,rfl⟩:=h;exact⟨rows,mR (fun x y hx=>mR (fun x y hx=>zR S hx) hx) hm,rfl⟩
   ·cases h
  ·cases h
 ·split at h
  ·rename_i b hg;rw[S _ b hg];exact h
  ·cases h
 ·cases h
theorem yK(S:Sub o o'){lend:List Nat}:∀{ts:List T} {k:Nat} {r:List T×List (Nat×Nat×Ob)×List Nat},qd o lend k ts=some r→qd o' lend k ts=some r
 |[],k,r,h=>h
 |t::ts,k,r,h=>by
  simp only[qd] at h ⊢;cases ha:qd o lend (k+1) ts with
  |none=>rw[ha] at h;cases h
  |some x=>
   obtain⟨as,ls,b⟩:=x;rw[ha] at h;rw[yK S ha];simp only at h ⊢;split at h
   ·rename_i hp;rw[if_pos hp];cases hl:nF o k (.c t) with
    |none=>rw[hl] at h;cases h
    |some y=>rw[hl] at h;rw[vw S hl];exact h
   ·rename_i hp;rw[if_neg hp];cases hl:im o t with
    |none=>rw[hl] at h;cases h
    |some y=>rw[hl] at h;rw[(uK S hl).1,(uK S hl).2];exact h
theorem Ba(S:Sub o o'){lend:List Nat}:∀{vals:List V} {p:Nat} {r:List V×List (Nat×Nat×Ob)×List Nat},args o lend p vals=some r→args o' lend p vals=some r
 |[],p,r,h=>h
 |v::vals,p,r,h=>by
  simp only[args] at h ⊢;cases ha:args o lend (p+1) vals with
  |none=>rw[ha] at h;cases h
  |some x=>
   obtain⟨as,ls,b⟩:=x;rw[ha] at h;rw[Ba S ha];simp only at h ⊢;split at h
   ·rename_i hp;rw[if_pos hp];cases hl:nF o p v with
    |none=>rw[hl] at h;cases h
    |some y=>rw[hl] at h;rw[vw S hl];exact h
   ·rename_i hp;rw[if_neg hp];split at h
    ·rename_i hc;rw[if_pos hc];split at h
     ·split at h
      ·rename_i h64;simp only[if_pos h64];split at h
       ·rename_i ts' ls' b' hcl;rw[yK S hcl];exact h
       ·cases h
      ·cases h
     ·cases h
    ·rename_i hc;rw[if_neg hc];cases hl:v.im o with
     |none=>rw[hl] at h;cases h
     |some y=>rw[hl] at h;rw[(C7 S hl).1,(C7 S hl).2];exact h
theorem tN(S:Sub o o'){nn:Nat}{after:List (Nat×Ob)}:∀{ls:List (Nat×Nat×Ob)} {r:List (Nat×Ob)},lg nn o after ls=some r→lg nn o' after ls=some r∧(ls.map fun l=>(l.1,l.2.1,(get o' l.2.1).elim 0 (·.ct)))=ls.map fun l=>(l.1,l.2.1,(get o l.2.1).elim 0 (·.ct))
 |[],r,h=>⟨h,rfl⟩
 |(p,id,ob)::ls,r,h=>by
  simp only[lg] at h ⊢;split at h
  ·rename_i b l h2 h3;obtain⟨i1,i2⟩:=tN S h3;rw[S id b h2,i1];refine⟨h, ?_⟩;simp only[bu,i2,h2,S id b h2]
  ·cases h
theorem xB(S:Sub o o'){cf:cI}{n f:Nat}{vals:List V}{lend:List Nat}{thaw:List (Nat×Nat)}{r:V×List (Nat×Ob)}(h:gh cf n o f vals lend thaw=some r):gh cf n o' f vals lend thaw=some r:=by
 unfold gh at h ⊢;cases ha:args o lend 0 vals with
 |none=>rw[ha] at h;cases h
 |some x=>
  obtain⟨as,ls,b⟩:=x;rw[ha] at h;rw[Ba S ha];simp only at h ⊢;split at h
  ·rename_i hc;rw[if_pos hc];split at h
   ·cases h
   ·rename_i res after hres;cases hl:lg n o after ls with
    |none=>rw[hl] at h;cases h
    |some gf=>
     rw[hl] at h;obtain⟨i1,i2⟩:=tN S hl;simp only[i1,i2];exact h
  ·cases h
theorem JX{t t':List (Nat×V)}{x:O}(h:∀k∈x.tmps,get t' k=get t k):look t' x=look t x:=by
 cases x with
 |t n=>exact h n (by simp[O.tmps])
 |k v=>rfl
 |fn f=>rfl
theorem nL{α β:Type}{f g:α→Option β}:∀{l:List α},(∀x∈l,f x=g x)→h_ f l=h_ g l
 |[],_=>rfl
 |x::l,h=>by simp only[h_];rw[h x (by simp),nL (fun y hy=>h y (by simp[hy]))]
theorem LK{cf:cI}{n d:Nat}{t t':List (Nat×V)}{m:MO}(h:∀k∈m.tmps,get t' k=get t k):act cf n d t' o m=act cf n d t o m:=by
 have L:∀x:O,(∀k∈x.tmps,k∈m.tmps)→look t' x=look t x:=fun x hx=>JX fun k hk=>h k (hx k hk)
 have LT:∀x:O,(∀k∈x.tmps,k∈m.tmps)→jL t' x=jL t x:=fun x hx=>by simp only[jL,L x hx]
 have LI:∀x:O,(∀k∈x.tmps,k∈m.tmps)→vt t' x=vt t x:=fun x hx=>by simp only[vt,L x hx]
 have LBo:∀x:O,(∀k∈x.tmps,k∈m.tmps)→qa t' x=qa t x:=fun x hx=>by simp only[qa,L x hx]
 have LN:∀x:O,(∀k∈x.tmps,k∈m.tmps)→pn t' x=pn t x:=fun x hx=>by simp only[pn,L x hx]
 have LG:∀x:O,(∀k∈x.tmps,k∈m.tmps)→w7 t' x=w7 t x:=fun x hx=>by simp only[w7,L x hx]
 have LA:∀x:O,(∀k∈x.tmps,k∈m.tmps)→qb t' x=qb t x:=fun x hx=>by simp only[qb,L x hx]
 have LO:∀(x:Option O) (dd:Nat),(∀k∈tK x,k∈m.tmps)→vV t' dd x=vV t dd x:=fun x dd hx=>by
  cases x with
  |none=>rfl
  |some x=>exact LN x hx
 cases m with
 |build zero parts=>
  simp only[act];congr 1;apply nL;intro x hx;rw[LA x.2.2 (fun k hk=>by simp only[MO.tmps,jl];exact⟨x,hx,hk⟩)]
 |bF sz len zero parts=>
  simp only[act];congr 1;apply nL;intro x hx;rw[LA x.2 (fun k hk=>by simp only[MO.tmps,jl];exact⟨x,hx,hk⟩)]
 |A3 sz len zero parts=>
  simp only[act];congr 1;apply nL;intro x hx;rw[LA x.2 (fun k hk=>by simp only[MO.tmps,jl];exact⟨x,hx,hk⟩)]
 |call f as lend thaw=>
  simp only[act];rw[nL (f:=look t') (g:=look t) fun x hx=>L x fun k hk=>by simp only[MO.tmps,jl];exact⟨x,hx,hk⟩]
 |oO f as=>
  simp only[act];rw[nL (f:=look t') (g:=look t) fun x hx=>L x fun k hk=>by simp only[MO.tmps,iG,jl];exact .inr ⟨x,hx,hk⟩,LT f fun k hk=>by simp only[MO.tmps,iG];exact .inl hk]
 |tL f caps=>
  simp only[act];rw[nL (f:=jL t') (g:=jL t) fun x hx=>LT x fun k hk=>by simp only[MO.tmps,jl];exact⟨x,hx,hk⟩]
 |pick c x y=>
  simp only[act];rw[LBo c (fun k hk=>by simp[MO.tmps,hk])];cases qa t c with
  |none=>rfl
  |some b=>cases b<;>simp[L x (fun k hk=>by simp[MO.tmps,hk]),L y (fun k hk=>by simp[MO.tmps,hk])]
 |oB x lo hi=>
  simp only[act];rw[LT x (fun k hk=>by simp[MO.tmps,hk])];cases jL t x with
  |none=>rfl
  |some z=>cases z<;>first|rfl|(simp only[LO lo 0 (fun k hk=>by simp[MO.tmps,hk]),LO hi _ (fun k hk=>by simp[MO.tmps,hk])])
 |yc sz x lo hi=>
  simp only[act];rw[LT x (fun k hk=>by simp[MO.tmps,hk])];simp only[LO lo 0 (fun k hk=>by simp[MO.tmps,hk]),LO hi _ (fun k hk=>by simp[MO.tmps,hk])]
 |wL sz x lo hi mx=>
  simp only[act];rw[LT x (fun k hk=>by simp[MO.tmps,hk])];simp only[LO lo 0 (fun k hk=>by simp[MO.tmps,hk]),LO hi _ (fun k hk=>by simp[MO.tmps,hk]),LO mx _ (fun k hk=>by simp[MO.tmps,hk])]
 |_=>simp only[act,MO.tmps,iG] at* <;>simp_all
theorem IN(S:Sub o o'){cf:cI}{n d:Nat}{t:List (Nat×V)}{m:MO}{r:V×List (Nat×Ob)}(h:act cf n d t o m=some r):act cf n d t o' m=some r:=by
 cases m with
 |bF sz len zero parts=>
  simp only[act,al] at h ⊢;obtain⟨ps,hm,rfl⟩:=h;refine⟨ps,mR ?_ hm,rfl⟩;intro x y hx;split at hx
  ·split at hx
   ·rename_i hc;rw[if_pos hc];rw[al] at hx ⊢;obtain⟨z,hz,rfl⟩:=hx;exact⟨z,mR (fun x y hx=>zR S hx) hz,rfl⟩
   ·cases hx
  ·cases hx
 |A3 sz len zero parts=>
  simp only[act,al] at h ⊢;obtain⟨ps,hm,rfl⟩:=h;refine⟨ps,mR ?_ hm,rfl⟩;intro x y hx;split at hx
  ·split at hx
   ·rename_i hc;rw[if_pos hc];rw[al] at hx ⊢;obtain⟨z,hz,rfl⟩:=hx;exact⟨z,mR (fun x y hx=>zR S hx) hz,rfl⟩
   ·cases hx
  ·cases hx
 |load agg k a=>
  simp only[act] at h ⊢;split at h
  ·cases h
  ·split at h
   ·cases h
   ·rename_i hp;rw[DT S hp];exact h
 |store k a x=>
  simp only[act] at h ⊢;split at h
  ·rename_i cs0 _ _;split at h
   ·rename_i b hg;rw[S _ b hg];simp only;split at h
    ·rename_i hc;rw[if_pos hc];split at h
     ·rename_i cs hr hcs;rw[hr];have:(if b.bx=true then some cs0 else h_ (cl o') cs0)=some cs:=by
       split at hcs
       ·rename_i hb;rw[if_pos hb];exact hcs
       ·rename_i hb;rw[if_neg hb];exact mR (fun x y hx=>zR S hx) hcs
      rw[this];exact h
     ·cases h
    ·cases h
   ·cases h
  ·cases h
 |EI x=>
  simp only[act] at h ⊢;split at h
  ·split at h
   ·rename_i rows hr;rw[(qF S hr).1,(qF S hr).2];exact h
   ·cases h
  ·cases h
 |yc sz x lo hi=>
  simp only[act] at h ⊢;split at h
  ·split at h
   ·rename_i b l u hg h1 h2;rw[S _ b hg,h1,h2];exact h
   ·cases h
  ·cases h
 |yk sz bytes x y=>
  simp only[act] at h ⊢;split at h
  ·split at h
   ·rename_i ys b hy hg;rw[yz S hy,S _ b hg];exact h
   ·cases h
  ·cases h
 |wL sz x lo hi mx=>
  simp only[act] at h ⊢;split at h
  ·split at h
   ·split at h
    ·split at h
     ·rename_i hc;rw[if_pos hc];split at h
      ·rename_i hm;rw[if_pos hm];exact h
      ·rename_i hm;rw[if_neg hm];split at h
       ·exact h
       ·exact h
       ·split at h
        ·rename_i b hg;rw[S _ b hg];exact h
        ·cases h
       ·cases h
     ·cases h
    ·cases h
   ·cases h
  ·cases h
 |kG sz x ix=>
  simp only[act] at h ⊢;split at h
  ·split at h
   ·rename_i b hg;rw[S _ b hg];exact h
   ·cases h
  ·exact h
  ·cases h
 |app sz bytes x y=>
  simp only[act] at h ⊢;split at h
  ·split at h
   ·cases h
   ·rename_i ys hy;rw[yz S hy];simp only;split at h
    ·rename_i hb;rw[if_pos hb];split at h
     ·exact h
     ·split at h
      ·rename_i b hg;rw[S _ b hg];exact h
      ·cases h
     ·cases h
    ·cases h
  ·cases h
 |EH zero x=>
  simp only[act] at h ⊢;split at h
  ·exact h
  ·exact h
  ·split at h
   ·rename_i b hg;rw[S _ b hg];exact h
   ·cases h
  ·cases h
 |call f as lend thaw=>
  simp only[act] at h ⊢;split at h
  ·exact xB S h
  ·cases h
 |oO x as=>
  simp only[act] at h ⊢;split at h
  ·exact xB S h
  ·cases h
 |_=>exact h
end Mx
namespace Mx
open Go
def mD(S:Nat→Bool):Nat→List oK→List (Nat×V)→List (Nat×V)
 |_,[],t=>t
 |i,e::es,t=>mD S (i+1) es (if S i then oH t e.dst e.v else t)
def mW(S:Nat→Bool):Nat→List oK→List (Nat×Ob)→List (Nat×Ob)
 |_,[],o=>o
 |i,e::es,o=>mW S (i+1) es (if S i then e.gf++o else o)
theorem rO(t:List (Nat×V))(d:Option Nat)(v:V)(x:Nat):get (oH t d v) x=if d=some x then some v else get t x:=by
 cases d with
 |none=>rfl
 |some d=>
  simp only[oH,get,aH];by_cases h:x=d
  ·subst h;simp
  ·have:¬d=x:=fun e=>h e.symm
   simp[h,this]
theorem m9{α:Type}:∀{l:List (Nat×α)} {x:Nat},x∉l.map (·.1)→get l x=none
 |[],_,_=>rfl
 |(k,v)::l,x,h=>by
  simp only[bu,uo,not_or] at h;simp only[get,if_neg h.1];exact m9 h.2
theorem rh{S S':Nat→Bool}{x:Nat}:∀{es:List oK} {i:Nat} {t t':List (Nat×V)},(∀j e,es[j]? =some e→e.dst=some x→S (i+j)=S' (i+j))→get t x=get t' x→get (mD S i es t) x=get (mD S' i es t') x
 |[],i,t,t',_,h=>h
 |e::es,i,t,t',hs,h=>by
  simp only[mD];refine rh (fun j e' h1 h2=>by have:=hs (j+1) e' (by simpa using h1) h2;rw[show i+1+j=i+(j+1) from by omega];exact this) ?_;by_cases hd:e.dst=some x
  ·have:=hs 0 e (by simp) hd;simp only[Nat.add_zero] at this;rw[this];split
   ·simp[rO,hd]
   ·exact h
  ·have e1:∀t:List (Nat×V),get (oH t e.dst e.v) x=get t x:=fun t=>by rw[rO,if_neg hd]
   split<;>split<;>simp[e1,h]
theorem rk{S S':Nat→Bool}{x:Nat}:∀{es:List oK} {i:Nat} {t t':List (Nat×Ob)},(∀j e,es[j]? =some e→x∈e.W→S (i+j)=S' (i+j))→get t x=get t' x→get (mW S i es t) x=get (mW S' i es t') x
 |[],i,t,t',_,h=>h
 |e::es,i,t,t',hs,h=>by
  simp only[mW];refine rk (fun j e' h1 h2=>by have:=hs (j+1) e' (by simpa using h1) h2;rw[show i+1+j=i+(j+1) from by omega];exact this) ?_;by_cases hd:x∈e.W
  ·have:=hs 0 e (by simp) hd;simp only[Nat.add_zero] at this;rw[this];split
   ·simp[get_append,h]
   ·exact h
  ·have e1:∀t:List (Nat×Ob),get (e.gf++t) x=get t x:=fun t=>by rw[get_append,m9 hd];simp
   split<;>split<;>simp[e1,h]
theorem Bc{S S':Nat→Bool}:∀{es:List oK} {i:Nat} {t:List (Nat×V)},(∀j,j<es.length→S (i+j)=S' (i+j))→mD S i es t=mD S' i es t
 |[],_,_,_=>rfl
 |e::es,i,t,h=>by
  simp only[mD];have h0:=h 0 (by simp);simp only[Nat.add_zero] at h0;rw[h0];exact Bc fun j hj=>by rw[show i+1+j=i+(j+1) from by omega];exact h (j+1) (by simp;omega)
theorem Be{S S':Nat→Bool}:∀{es:List oK} {i:Nat} {t:List (Nat×Ob)},(∀j,j<es.length→S (i+j)=S' (i+j))→mW S i es t=mW S' i es t
 |[],_,_,_=>rfl
 |e::es,i,t,h=>by
  simp only[mW];have h0:=h 0 (by simp);simp only[Nat.add_zero] at h0;rw[h0];exact Be fun j hj=>by rw[show i+1+j=i+(j+1) from by omega];exact h (j+1) (by simp;omega)
def lK(S:Nat→Bool)(k:Nat):Nat→Bool:=fun j=>S j||j==k
theorem Bd{S:Nat→Bool}{x:Nat}:∀{es:List oK} {i k:Nat} {e:oK} {t:List (Nat×V)},i≤k→es[k-i]? =some e→(∀j e',es[j]? =some e'→S (i+j)=true→k<i+j→e.dst=some x→e'.dst≠some x)→S k=false→
  get (mD (lK S k) i es t) x=get (oH (mD S i es t) e.dst e.v) x
 |[],i,k,e,t,hk,he,_,_=>by simp at he
 |f::es,i,k,e,t,hk,he,hw,hS=>by
  simp only[mD];by_cases hik:i=k
  ·subst hik;simp at he;subst he;have h1:lK S i i=true:=by simp[lK]
   rw[h1,hS];simp only[if_true,aB,if_false];rw[rO];by_cases hd:f.dst=some x
   ·rw[if_pos hd];have:get (mD (fun _=>false) (i+1) es (oH t f.dst f.v)) x=some f.v:=by
     have z:∀(es:List oK) (i:Nat) (t:List (Nat×V)),mD (fun _=>false) i es t=t:=by
      intro es
      induction es with
      |nil=>intro i t;rfl
      |cons e es ih=>intro i t;simp only[mD];exact ih _ _
     rw[z,rO,if_pos hd]
    rw[←this];refine rh (fun j e' h1 h2=> ?_) rfl;cases hq:lK S i (i+1+j) with
    |false=>rfl
    |true=>
     exfalso;have hq':S (i+1+j)=true:=by simp only[lK,Bool.or_eq_true,beq_iff_eq] at hq;rcases hq with q|q;exact q;omega
     exact hw (j+1) e' (by simpa using h1) (by rw[show i+(j+1)=i+1+j from by omega];exact hq') (by omega) hd h2
   ·rw[if_neg hd];exact rh (fun j e' h1 h2=>by have:¬(i+1+j=i):=(by omega);simp[lK,this]) (by rw[rO,if_neg hd])
  ·have h1:lK S k i=S i:=by have:¬(i=k):=hik;simp[lK,this]
   rw[h1];refine Bd (by omega) ?_ (fun j e' q1 q2 q3 q4=>hw (j+1) e' (by simpa using q1) (by rw[show i+(j+1)=i+1+j from by omega];exact q2) (by omega) q4) hS;rw[show k-i=(k-(i+1))+1 from by omega] at he;simpa using he
theorem Bf{S:Nat→Bool}{x:Nat}:∀{es:List oK} {i k:Nat} {e:oK} {t:List (Nat×Ob)},i≤k→es[k-i]? =some e→(∀j e',es[j]? =some e'→S (i+j)=true→k<i+j→x∈e.W→x∉e'.W)→S k=false→
  get (mW (lK S k) i es t) x=get (e.gf++mW S i es t) x
 |[],i,k,e,t,hk,he,_,_=>by simp at he
 |f::es,i,k,e,t,hk,he,hw,hS=>by
  simp only[mW];by_cases hik:i=k
  ·subst hik;simp at he;subst he;have h1:lK S i i=true:=by simp[lK]
   rw[h1,hS];simp only[if_true,aB,if_false];by_cases hd:x∈f.W
   ·have z:∀(es:List oK) (i:Nat) (t:List (Nat×Ob)),mW (fun _=>false) i es t=t:=by
     intro es
     induction es with
     |nil=>intro i t;rfl
     |cons e es ih=>intro i t;simp only[mW];exact ih _ _
    have hno:∀(S':Nat→Bool),(∀j,S' (i+1+j)=S (i+1+j))→∀t:List (Nat×Ob),get (mW S' (i+1) es t) x=get t x:=by
     intro S' hS' t;have:get (mW (fun _=>false) (i+1) es t) x=get t x:=by rw[z]
     rw[←this];refine rk (fun j e' h1 h2=> ?_) rfl;cases hq:S' (i+1+j) with
     |false=>rfl
     |true=>
      exfalso;rw[hS'] at hq;exact hw (j+1) e' (by simpa using h1) (by rw[show i+(j+1)=i+1+j from by omega];exact hq) (by omega) hd h2
    rw[hno (lK S i) (fun j=>by have:¬(i+1+j=i):=(by omega);simp[lK,this]),get_append,get_append,hno S (fun _=>rfl)]
   ·rw[get_append,m9 hd];simp only[Option.none_or];exact rk (fun j e' h1 h2=>by have:¬(i+1+j=i):=(by omega);simp[lK,this]) (by rw[get_append,m9 hd];simp)
  ·have h1:lK S k i=S i:=by have:¬(i=k):=hik;simp[lK,this]
   rw[h1];refine Bf (by omega) ?_ (fun j e' q1 q2 q3 q4=>hw (j+1) e' (by simpa using q1) (by rw[show i+(j+1)=i+1+j from by omega];exact q2) (by omega) q4) hS;rw[show k-i=(k-(i+1))+1 from by omega] at he;simpa using he
theorem ve{cf:cI}{n:Nat}:∀{ms:List og} {as:List (List Nat)} {i:Nat} {t:List (Nat×V)} {o:List (Nat×Ob)} {acc:List (Nat×oK)} {r:List (Nat×V)×List (Nat×Ob)},kf cf n i ms as t o acc=some r→
  ∃es:List oK,es.length=ms.length∧r=(mD (fun _=>true) i es t,mW (fun _=>true) i es o)∧
   ∀j m,ms[j]? =some m→∃a e,as[j]? =some a∧es[j]? =some e∧oe cf n (i+j) m (mD (fun q=>decide (q<i+j)) i es t) (mW (fun q=>decide (q<i+j)) i es o)=some e∧
    (∀x∈acc,a.contains x.1=true∨e.apart x.2=true)∧(∀j' e',j'<j→es[j']? =some e'→a.contains (i+j')=true∨e.apart e'=true)
 |[],as,i,t,o,acc,r,h=>by
  simp only[kf,aH] at h;subst h;exact⟨[],rfl,rfl,fun j m hj=>by simp at hj⟩
 |m::ms,[],i,t,o,acc,r,h=>by simp[kf] at h
 |m::ms,a::as,i,t,o,acc,r,h=>by
  simp only[kf] at h;split at h
  ·rename_i e he;split at h
   ·rename_i hc;obtain⟨es,h1,h2,h3⟩:=ve h;have z:∀(es:List oK) (k:Nat) (t:List (Nat×V)),i≤k→mD (fun q=>decide (q<i)) k es t=t:=by
     intro es
     induction es with
     |nil=>intro k t _;rfl
     |cons e es ih=>intro k t hk;simp only[mD];rw[if_neg (by simp;omega)];exact ih _ _ (by omega)
    have z2:∀(es:List oK) (k:Nat) (t:List (Nat×Ob)),i≤k→mW (fun q=>decide (q<i)) k es t=t:=by
     intro es
     induction es with
     |nil=>intro k t _;rfl
     |cons e es ih=>intro k t hk;simp only[mW];rw[if_neg (by simp;omega)];exact ih _ _ (by omega)
    refine⟨e::es,by simp[h1], ?_, ?_⟩
    ·rw[h2];simp only[mD,mW,if_true]
    ·intro j m' hj;cases j with
     |zero=>
      simp at hj;subst hj;refine⟨a,e,rfl,rfl, ?_, ?_,fun j' e' h=>by omega⟩
      ·rw[Nat.add_zero,z _ _ _ (Nat.le_refl _),z2 _ _ _ (Nat.le_refl _)];exact he
      ·intro x hx;simp only[fL,Bool.or_eq_true] at hc;exact hc x hx
     |succ j=>
      obtain⟨a',e',q1,q2,q3,q4,q5⟩:=h3 j m' (by simpa using hj);refine⟨a',e',by simpa using q1,by simpa using q2, ?_,fun x hx=>q4 x (bo _ hx), ?_⟩
      ·simp only[mD,mW];rw[if_pos (by simp),if_pos (by simp),show i+(j+1)=i+1+j from by omega];exact q3
      ·intro j' e2 hj' he2;cases j' with
       |zero=>
        simp at he2;subst he2;exact q4 (i,e) (bl ..)
       |succ j'=>
        have:=q5 j' e2 (by omega) (by simpa using he2);rw[show i+(j'+1)=i+1+j' from by omega];exact this
   ·cases h
  ·cases h
def FW(m:og):List Nat:=match m.guard with
 |some (g,_)=>[g]
 |none=>[]
def wT(m:og):List Nat:=m.op.tmps++FW m
def s7(m m':og):Bool:=(match m.dst with|some d=> !(wT m').contains d&&(m'.dst !=some d)|none=>true)&&(match m'.dst with|some d=> !(wT m).contains d|none=>true)
def sO(P:Program)(F:Nat→FuncId)(N:Nat)(xs:Array Oper)(ms:List og)(as:List (List Nat))(i:Nat):Bool:=
 match ms[i]?,as[i]?,xs[i]? with
 |some m,some a,some x=>
  C0 P F N xs m x&&a.all (fun j=>decide (j<i))&&a.all (fun j=>x.after.any fun e=>Region.binds .any e&&(e.on==j||(match as[e.on]? with|some b=>b.contains j|none=>false)))&&
  x.after.all (fun e=> !Region.binds .any e||decide (e.on<i))&&(List.range i).all fun j=>a.contains j||(match ms[j]? with|some m'=>s7 m m'|none=>false)
 |_,_,_=>false
def Ft(P:Program)(F:Nat→FuncId)(N:Nat)(xs:Array Oper)(ms:List og)(as:List (List Nat)):Bool:=
 P.follows .mixedOrders&&ms.length==xs.size&&(List.range ms.length).all (sO P F N xs ms as)
def NS(nb:Nat)(S:Nat→Bool)(k:Nat):Prop:=k<nb∨∃i,S i=true∧nb+16*i≤k∧k<nb+16*i+16
theorem Jk{nb:Nat}{S:Nat→Bool}{i:Nat}(h:S i=false):Fr (NS nb S) (nb+16*i) (NS nb (lK S i)):=by
 refine⟨?_, ?_, ?_⟩
 ·rintro k h1 h2 (h3|⟨j,h3,h4,h5⟩)
  ·omega
  ·have:j=i:=by omega
   subst this;rw[h] at h3;cases h3
 ·rintro k (h3|⟨j,h3,h4,h5⟩)
  ·exact .inl h3
  ·exact .inr ⟨j,by simp[lK,h3],h4,h5⟩
 ·intro k h1 h2;exact .inr ⟨i,by simp[lK],h1,by omega⟩
theorem De{cf:cI}{n i:Nat}{m:og}{t:List (Nat×V)}{o:List (Nat×Ob)}{e:oK}(h:oe cf n i m t o=some e):e.dst=m.dst:=by
 unfold oe at h;split at h
 ·rw[al] at h;obtain⟨r,_,rfl⟩:=h;rfl
 ·cases h;rfl
 ·cases h
variable {P:Program} {F:Nat→FuncId} {Pr:Nat→Prop} {w0:World} {lb:Lb} {N:Nat}
theorem Rel.Fz{E:Nat→Option Loc}{n n':Nat→Prop}{t:List (Nat×V)}{o:List (Nat×Ob)}{a:Act}{w:World}(R:Rel F Pr w0 lb N E n t o a w)(h:∀k,n k→n' k):Rel F Pr w0 lb N E n' t o a w:=R.same rfl rfl rfl rfl h
theorem Rel.Lw{E:Nat→Option Loc}{n:Nat→Prop}{t t':List (Nat×V)}{o o':List (Nat×Ob)}{a:Act}{w:World}(R:Rel F Pr w0 lb N E n t o a w)(ht:∀x,get t' x=get t x)(ho:∀x,get o' x=get o x):Rel F Pr w0 lb N E n t' o' a w:=
 R.sub (fun d v h=>by rw[←ht];exact h) fun id ob h=>⟨ob,by rw[←ho];exact h,rfl,rfl,rfl,rfl,fun h=>h⟩
section
variable {cf:cI} {xs:Array Oper} {ms:List og} {as:List (List Nat)} {nb:Nat} {es:List oK} {t0:List (Nat×V)} {o0:List (Nat×Ob)}
theorem D8(hok:(List.range ms.length).all (sO P F N xs ms as)=true)
  (hes:∀j m,ms[j]? =some m→∃a e,as[j]? =some a∧es[j]? =some e∧oe cf nb j m (mD (fun q=>decide (q<j)) 0 es t0) (mW (fun q=>decide (q<j)) 0 es o0)=some e∧(∀j' e',j'<j→es[j']? =some e'→a.contains j'=true∨e.apart e'=true))
  (hlen:es.length=ms.length) {S:Nat→Bool} {i:Nat} {m:og} {e:oK} (hi:ms[i]? =some m) (he:es[i]? =some e) (hS:S i=false)
  (hanc:∀a,as[i]? =some a→∀j∈a,S j=true) (hdown:∀j a,as[j]? =some a→S j=true→∀k∈a,S k=true):
  (∀x∈wT m,get (mD S 0 es t0) x=get (mD (fun q=>decide (q<i)) 0 es t0) x)∧
  (∀x∈e.T,get (mW S 0 es o0) x=get (mW (fun q=>decide (q<i)) 0 es o0) x)∧
  (∀x,get (mD (lK S i) 0 es t0) x=get (oH (mD S 0 es t0) e.dst e.v) x)∧
  (∀x,get (mW (lK S i) 0 es o0) x=get (e.gf++mW S 0 es o0) x):=by
 have one:∀j,j<ms.length→sO P F N xs ms as j=true:=by
  intro j hj;simp only[fL,List.mem_range] at hok;exact hok j hj
 have two:∀(j k:Nat) (mj:og) (ek' ej:oK),j<k→ms[k]? =some mj→es[k]? =some ek'→es[j]? =some ej→(∃a,as[k]? =some a∧j∈a)∨(ek'.apart ej=true∧∃mj',ms[j]? =some mj'∧s7 mj mj'=true):=by
  intro j k mk ek ej hjk hk hek hej;obtain⟨a,e',q1,q2,_,q4⟩:=hes k mk hk;rw[hek] at q2;cases q2;by_cases hc:a.contains j=true
  ·exact .inl ⟨a,q1,by simpa using hc⟩
  ·refine .inr ⟨(q4 j ej hjk hej).resolve_left hc, ?_⟩;have:=one k (List.getElem?_eq_some_iff.1 hk).1;unfold sO at this;rw[hk,q1] at this;split at this
   ·rename_i m1 a1 x1 e1 e2 e3;cases e1;cases e2;simp only[aj,fL,List.mem_range,Bool.or_eq_true] at this;have h2:=(this.2 j hjk).resolve_left hc;split at h2
    ·rename_i m' hm';exact⟨m',hm',h2⟩
    ·cases h2
   ·cases this
 have msOf:∀(j:Nat) (ej:oK),es[j]? =some ej→∃mj,ms[j]? =some mj∧ej.dst=mj.dst:=by
  intro j ej hj;have hlt:j<ms.length:=by rw[←hlen];exact(List.getElem?_eq_some_iff.1 hj).1
  obtain⟨a,e',_,q2,q3,_⟩:=hes j ms[j] (by simp[hlt]);rw[hj] at q2;cases q2;exact⟨ms[j],by simp[hlt],De q3⟩
 have side:∀(j:Nat) (ej:oK),es[j]? =some ej→j≠i→(S j=decide (j<i))∨(∃mj,ms[j]? =some mj∧ej.dst=mj.dst∧((j<i∧e.apart ej=true∧s7 m mj=true)∨(i<j∧ej.apart e=true∧s7 mj m=true))):=by
  intro j ej hj hne;obtain⟨mj,hmj,hd⟩:=msOf j ej hj;rcases Nat.lt_or_gt_of_ne hne with h|h
  ·rcases two j i m e ej h hi he hj with⟨a,h1,h2⟩|⟨h1,mj',h2,h3⟩
   ·left;rw[hanc a h1 j h2];simp[h]
   ·rw[hmj] at h2;cases h2;exact .inr ⟨mj,hmj,hd,.inl ⟨h,h1,h3⟩⟩
  ·rcases two i j mj ej e h hmj hj he with⟨a,h1,h2⟩|⟨h1,mi',h2,h3⟩
   ·left;have:S j=false:=by
     cases hq:S j with
     |false=>rfl
     |true=>have:=hdown j a h1 hq i h2;rw[hS] at this;cases this
    rw[this];simp;omega
   ·rw[hi] at h2;cases h2;exact .inr ⟨mj,hmj,hd,.inr ⟨h,h1,h3⟩⟩
 have hed:e.dst=m.dst:=by
  obtain⟨m',h1,h2⟩:=msOf i e he;rw[hi] at h1;cases h1;exact h2
 refine⟨?_, ?_, ?_, ?_⟩
 ·intro x hx;refine rh (fun j ej hj hd=> ?_) rfl;rw[Nat.zero_add];by_cases hne:j=i
  ·subst hne;rw[hS];simp
  ·rcases side j ej hj hne with h|⟨mj,_,hdj,⟨_,_,h⟩|⟨_,_,h⟩⟩
   ·exact h
   ·exfalso;rw[hdj] at hd;simp only[s7,hd,aj,Bool.not_eq_true'] at h;have:=h.2;simp at this;exact this hx
   ·exfalso;rw[hdj] at hd;simp only[s7,hd,aj,Bool.not_eq_true'] at h;have:=h.1.1;simp at this;exact this hx
 ·intro x hx;refine rk (fun j ej hj hd=> ?_) rfl;rw[Nat.zero_add];by_cases hne:j=i
  ·subst hne;rw[hS];simp
  ·rcases side j ej hj hne with h|⟨mj,_,hdj,⟨_,h,_⟩|⟨_,h,_⟩⟩
   ·exact h
   ·exfalso;simp only[oK.apart,aj,fL,Bool.not_eq_true'] at h;have:=h.2 x hd;simp at this;exact this hx
   ·exfalso;simp only[oK.apart,aj,fL,Bool.not_eq_true'] at h;have:=(h.1 x hd).1;simp at this;exact this hx
 ·intro x;refine Bd (Nat.zero_le _) (by simpa using he) ?_ hS;intro j ej hj hSj hlt hd hdj;rw[Nat.zero_add] at hSj hlt;rcases side j ej hj (by omega) with h|⟨mj,_,hdj',⟨h0,_,h⟩|⟨_,_,h⟩⟩
  ·rw[hSj] at h;simp at h;omega
  ·omega
  ·rw[hdj'] at hdj;rw[hed] at hd;simp[s7,hdj,hd] at h
 ·intro x;refine Bf (Nat.zero_le _) (by simpa using he) ?_ hS;intro j ej hj hSj hlt hd hdj;rw[Nat.zero_add] at hSj hlt;rcases side j ej hj (by omega) with h|⟨mj,_,hdj',⟨h0,_,h⟩|⟨_,h,_⟩⟩
  ·rw[hSj] at h;simp at h;omega
  ·omega
  ·simp only[oK.apart,aj,fL,Bool.not_eq_true'] at h;have:=(h.1 x hdj).2;simp at this;exact this hd
end
end Mx
namespace Mx
open Go
variable {P:Program} {F:Nat→FuncId} {Pr:Nat→Prop} {w0:World} {lb:Lb} {N:Nat}
section
variable {cf:cI} {xs:Array Oper} {ms:List og} {as:List (List Nat)} {nb:Nat} {es:List oK} {t0:List (Nat×V)} {o0:List (Nat×Ob)}
theorem tY{α:Type}(ks:List Nat)(l:List (Nat×α)){x:Nat}{v:α}(h:get (keep ks l) x=some v):x∈ks:=by
 induction ks with
 |nil=>simp[keep,get] at h
 |cons k ks ih=>
  simp only[keep,List.filterMap_cons] at h;cases hk:get l k with
  |none=>simp only[hk,Option.map_none] at h;exact bo _ (ih h)
  |some u=>
   simp only[hk,iF,get] at h;split at h
   ·rename_i e;subst e;exact bl ..
   ·exact bo _ (ih h)
theorem DQ{L:Array Bool}(hL:L.size=xs.size)(hsz:ms.length=xs.size)(hok:(List.range ms.length).all (sO P F N xs ms as)=true)(h:Region.ready .any xs L=[]):∀i,i<xs.size→L.getD i false=true:=by
 intro i
 induction i using Nat.strongRecOn with
 |_ i ih=>
  intro hi;cases hq:L.getD i false with
  |true=>rfl
  |false=>
   exfalso;have hone:sO P F N xs ms as i=true:=by
    simp only[fL,List.mem_range] at hok;exact hok i (by omega)
   unfold sO at hone;split at hone
   ·rename_i m a x e1 e2 e3;simp only[aj] at hone;have hbef:=hone.1.2;have:i∈Region.ready .any xs L:=by
     rw[mem_ready];refine⟨?_,x,e3,fun e he hb=> ?_⟩
     ·have hlt:i<L.size:=by omega
      simp[hlt] at hq ⊢;exact hq
     ·rw[Array.all_eq_true_iff_forall_mem] at hbef;have:=hbef e he;rw[hb] at this;simp at this;exact ih e.on this (by omega)
    rw[h] at this;simp at this
   ·cases hone
theorem Gg(hcf:r_ P F cf)(hsz:ms.length=xs.size)(hok:(List.range ms.length).all (sO P F N xs ms as)=true)
  (hes:∀j m,ms[j]? =some m→∃a e,as[j]? =some a∧es[j]? =some e∧oe cf nb j m (mD (fun q=>decide (q<j)) 0 es t0) (mW (fun q=>decide (q<j)) 0 es o0)=some e∧(∀j' e',j'<j→es[j']? =some e'→a.contains j'=true∨e.apart e'=true))
  (hlen:es.length=ms.length) {Q:Exit→Act→World→Prop}
  (hq:∀E' a' w',Rel F Pr w0 lb N E' (fun k=>k<nb+16*ms.length) (mD (fun _=>true) 0 es t0) (mW (fun _=>true) 0 es o0) a' w'→Q .normal a' w'):
  ∀(fuel:Nat) (L:Array Bool) {E:Nat→Option Loc} {a:Act} {w:World},L.size=xs.size→((List.range xs.size).filter fun i=> !L.getD i false).length≤fuel→
   (∀i b,as[i]? =some b→L.getD i false=true→∀j∈b,L.getD j false=true)→
   Rel F Pr w0 lb N E (NS nb fun j=>L.getD j false) (mD (fun j=>L.getD j false) 0 es t0) (mW (fun j=>L.getD j false) 0 es o0) a w→wpAny P .any xs Q fuel L a w:=by
 have done:∀(L:Array Bool) {E:Nat→Option Loc} {a:Act} {w:World},L.size=xs.size→(∀i,i<xs.size→L.getD i false=true)→
   Rel F Pr w0 lb N E (NS nb fun j=>L.getD j false) (mD (fun j=>L.getD j false) 0 es t0) (mW (fun j=>L.getD j false) 0 es o0) a w→Q .normal a w:=by
  intro L E a w hL hall R;have e1:mD (fun j=>L.getD j false) 0 es t0=mD (fun _=>true) 0 es t0:=Bc fun j hj=>by rw[Nat.zero_add];exact hall j (by omega)
  have e2:mW (fun j=>L.getD j false) 0 es o0=mW (fun _=>true) 0 es o0:=Be fun j hj=>by rw[Nat.zero_add];exact hall j (by omega)
  rw[e1,e2] at R;refine hq E a w (R.Fz ?_);rintro k (h|⟨i,h1,h2,h3⟩)
  ·omega
  ·have:i<L.size:=by
    rcases Nat.lt_or_ge i L.size with q|q
    ·exact q
    ·simp[Array.getElem?_eq_none q] at h1
   omega
 intro fuel
 induction fuel with
 |zero=>
  intro L E a w hL hcount hdown R;have hall:∀i,i<xs.size→L.getD i false=true:=by
   intro i hi;cases hx:L.getD i false with
   |true=>rfl
   |false=>
    exfalso;have:i∈(List.range xs.size).filter fun i=> !L.getD i false:=by
     rw[fO,List.mem_range];exact⟨hi,by rw[hx];rfl⟩
    have hlen0:=List.length_pos_of_mem this;omega
  refine⟨?_,done L hL hall R⟩;cases hr:Region.ready .any xs L with
  |nil=>rfl
  |cons i rest=>
   exfalso;have hi:i∈Region.ready .any xs L:=by rw[hr];exact bl ..
   rw[mem_ready] at hi;obtain⟨h0,o,ho,_⟩:=hi;have hlt:i<xs.size:=(Array.getElem?_eq_some_iff.1 ho).1;have h1:=hall i hlt;have hlt2:i<L.size:=by omega
   simp[hlt2] at h0 h1;rw[h0] at h1;cases h1
 |succ fuel ih=>
  intro L E a w hL hcount hdown R;refine⟨fun hr=>done L hL (DQ hL hsz hok hr) R, ?_⟩;intro i hi;rw[mem_ready] at hi;obtain⟨h0,x,hx,hedges⟩:=hi;have hlt:i<xs.size:=(Array.getElem?_eq_some_iff.1 hx).1;have hlt2:i<L.size:=by omega
  have hSi:L.getD i false=false:=by simp[hlt2] at h0 ⊢;exact h0
  have hone:sO P F N xs ms as i=true:=by
   simp only[fL,List.mem_range] at hok;exact hok i (by omega)
  unfold sO at hone;split at hone;rotate_left
  ·cases hone
  rename_i m b x' hm hb hx';rw[hx] at hx';cases hx';simp only[aj] at hone;obtain⟨⟨⟨⟨hmop,hlt0⟩,hjust⟩,hbef⟩,_⟩:=hone;obtain⟨b',e,hb',he,hent,_⟩:=hes i m hm;have hanc:∀a,as[i]? =some a→∀j∈a,L.getD j false=true:=by
   intro a ha j hj;rw[hb] at ha;cases ha;simp only[fL] at hjust;have:=hjust j hj;rw[←Array.any_toList,List.any_eq_true] at this;obtain⟨ed,hed,hed2⟩:=this;have hed:=Array.mem_def.2 hed;simp only[aj,Bool.or_eq_true,beq_iff_eq] at hed2;have hon:=hedges ed hed hed2.1;rcases hed2.2 with q|q
   ·rw[←q];exact hon
   ·split at q
    ·rename_i c hc;exact hdown ed.on c hc hon j (by simpa using q)
    ·cases q
  obtain⟨k1,k2,k3,k4⟩:=D8 hok hes hlen hm he hSi hanc (fun j a ha hj k hk=>hdown j a ha hj k hk);have hS':(fun j=>(L.setIfInBounds i true).getD j false)=lK (fun j=>L.getD j false) i:=by
   funext j;simp only[lK];by_cases hji:j=i
   ·subst hji;simp[hlt2]
   ·rw[getD_set_ne false (fun q=>hji q.symm)];have:(j==i)=false:=by simp[hji]
    rw[this,Bool.or_false]
  simp only[C0,aj,beq_iff_eq] at hmop;obtain⟨⟨⟨hdst,hN⟩,hg⟩,hact⟩:=hmop;have hed:=De hent;have hN':∀d,e.dst=some d→d<N:=by
   intro d hd;rw[hed,hdst] at hd;rw[hd] at hN;simpa using hN
  have next:∀E' a' w',Rel F Pr w0 lb N E' (NS nb (lK (fun j=>L.getD j false) i)) (oH (mD (fun j=>L.getD j false) 0 es t0) e.dst e.v) (e.gf++mW (fun j=>L.getD j false) 0 es o0) a' w'→wpAny P .any xs Q fuel (L.setIfInBounds i true) a' w':=by
   intro E' a' w' R';refine ih (L.setIfInBounds i true) (by simpa using hL) ?_ ?_ ?_ (E:=E')
   ·have hsub:((List.range xs.size).filter fun j=> !(L.setIfInBounds i true).getD j false).length<((List.range xs.size).filter fun j=> !L.getD j false).length:=by
     have e1:((List.range xs.size).filter fun j=> !(L.setIfInBounds i true).getD j false)=((List.range xs.size).filter fun j=> !L.getD j false).filter fun j=> !(j==i):=by
      rw[List.filter_filter];congr 1;funext j;have:=congrFun hS' j;rw[this];simp[lK,Bool.and_comm]
     rw[e1];have hmem:i∈(List.range xs.size).filter fun j=> !L.getD j false:=by
      rw[fO,List.mem_range];exact⟨hlt,by rw[hSi];rfl⟩
     exact List.length_filter_lt_length_iff_exists.2 ⟨i,hmem,by simp⟩
    omega
   ·intro j c hc hj k hk;have hj':lK (fun j=>L.getD j false) i j=true:=by rw[←hS'];exact hj
    have:lK (fun j=>L.getD j false) i k=true:=by
     simp only[lK,Bool.or_eq_true,beq_iff_eq] at hj' ⊢;rcases hj' with q|q
     ·exact .inl (hdown j c hc q k hk)
     ·subst q;exact .inl (hanc c hc k hk)
    rw[←hS'] at this;exact this
   ·rw[hS'];exact R'.Lw k3 k4
  show wpOp P xs Q i (wpAny P .any xs Q fuel (L.setIfInBounds i true)) a w;unfold wpOp;rw[hx];simp only;have hwant:wanted (mD (fun j=>L.getD j false) 0 es t0) m.guard=wanted (mD (fun q=>decide (q<i)) 0 es t0) m.guard:=by
   cases hgm:m.guard with
   |none=>rfl
   |some gb=>
    obtain⟨g,bb⟩:=gb;simp only[wanted];rw[k1 g (by simp[wT,FW,hgm])]
  unfold oe at hent;split at hent
  ·rename_i hw;rw[if_pos (sa R hg (by rw[hwant];exact hw))];rw[al] at hent;obtain⟨r,hr,rfl⟩:=hent;have hr2:act cf (nb+16*i) (m.dst.getD 0) (mD (fun j=>L.getD j false) 0 es t0) (mW (fun j=>L.getD j false) 0 es o0) m.op=some (r.1,r.2):=by
    rw[LK (t:=mD (fun q=>decide (q<i)) 0 es t0) (fun k hk=>k1 k (by simp[wT,hk]))];refine IN (fun id ob hg=> ?_) hr;rw[k2 id (tY _ _ hg)];exact xr _ _ hg
   refine .inl (GC R (Jk hSi) hcf hact hr2 ?_);intro E' val w' R' hv;have z:=next E' _ w' (R'.put (dst:=m.dst) (by simpa using hN') hv)
   rw[hdst] at z;exact z
  ·rename_i hw;rw[if_neg (by rw[sa R hg (by rw[hwant];exact hw)];simp)];cases hent;have R2:=(R.Fz (Jk hSi).mX).put (dst:=m.dst) (v:= .undef) (val:=undef) (by simpa using hN') (.undef _ (by intro b h;cases h));have z:=next E _ w R2
   rw[hdst] at z;exact z
  ·cases hent
end
end Mx
namespace Mx
open Go
variable {P:Program} {F:Nat→FuncId} {Pr:Nat→Prop} {w0:World} {lb:Lb} {N:Nat} {E:Nat→Option Loc} {n:Nat→Prop} {t:List (Nat×V)} {o:List (Nat×Ob)} {a:Act} {w:World}
def uB(P:Program)(F:Nat→FuncId)(N:Nat)(ops:Array Oper):List og→List Oper→Bool
 |[],[]=>true
 |m::ms,x::xs=>C0 P F N ops m x&&uB P F N ops ms xs
 |_,_=>false
theorem Ip(nb i:Nat):Fr (fun k=>k<nb+16*i) (nb+16*i) (fun k=>k<nb+16*(i+1)):=
 ⟨fun k h1 h2 h3=>by omega,fun k h=>by omega,fun k h1 h2=>by omega⟩
theorem wD{cf:cI}(hcf:r_ P F cf){ops:Array Oper}{Q:Exit→Act→World→Prop}{nb:Nat}:∀{i:Nat} {ms:List og} {xs:List Oper} {E:Nat→Option Loc} {t:List (Nat×V)} {o:List (Nat×Ob)} {a:Act} {w:World} {t':List (Nat×V)} {o':List (Nat×Ob)},
  Rel F Pr w0 lb N E (fun k=>k<nb+16*i) t o a w→uB P F N ops ms xs=true→steps cf nb i ms t o=some (t',o')→
  (∀E' a' w',Rel F Pr w0 lb N E' (fun k=>k<nb+16*(i+ms.length)) t' o' a' w'→Q .normal a' w')→wpList P ops Q xs a w
 |i,[],[],E,t,o,a,w,t',o',R,_,h,hq=>by
  simp only[steps,aH,aR] at h;obtain⟨rfl,rfl⟩:=h;exact hq E a w R
 |i,m::ms,x::xs,E,t,o,a,w,t',o',R,hok,h,hq=>by
  simp only[uB,C0,aj,beq_iff_eq] at hok;obtain⟨⟨⟨⟨hdst,hN⟩,hg⟩,hact⟩,hrest⟩:=hok;have hN':∀d,x.dst=some d→d<N:=by
   intro d hd;rw[hd] at hN;simpa using hN
  simp only[steps] at h;split at h
  ·rename_i t1 o1 hs;have hq':∀E' a' w',Rel F Pr w0 lb N E' (fun k=>k<nb+16*(i+1+ms.length)) t' o' a' w'→Q .normal a' w':=by
    intro E' a' w' R';exact hq E' a' w' (by rw[bV,show i+(ms.length+1)=i+1+ms.length from by omega];exact R')
   unfold wpList;unfold step at hs;split at hs
   ·rename_i hw;rw[if_pos (sa R hg hw)];simp only[al,aR] at hs;obtain⟨r,hr,rfl,rfl⟩:=hs;refine .inl (GC R (Ip nb i) hcf hact hr ?_);intro E' val w' R' hv;refine wD hcf (i:=i+1) (R'.put (dst:=m.dst) (by rw[hdst];exact hN') hv) hrest h hq'|>fun z=> ?_
    rw[hdst] at z;exact z
   ·rename_i hw;rw[if_neg (by rw[sa R hg hw];simp)];simp only[aH,aR] at hs;obtain⟨rfl,rfl⟩:=hs;have R2:=(R.same rfl rfl rfl rfl (n':=fun k=>k<nb+16*(i+1)) (fun k h=>by omega)).put (dst:=m.dst) (v:= .undef) (val:=undef) (by rw[hdst];exact hN') (.undef _ (by intro b h;cases h));have z:=wD hcf (i:=i+1) R2 hrest h hq';rw[hdst] at z;exact z
   ·cases hs
  ·cases h
 |_,[],_::_,_,_,_,_,_,_,_,_,hok,_,_=>by simp[uB] at hok
 |_,_::_,[],_,_,_,_,_,_,_,_,hok,_,_=>by simp[uB] at hok
def tF(P:Program)(F:Nat→FuncId)(N:Nat):C→Code→Bool
 | .skip,.skip=>true
 | .ai ops _ _,.region _ xs false=>uB P F N xs ops xs.toList
 | .gV ops anc _ _,.region _ xs true=>Ft P F N xs ops anc
 | .seq a b,.seq c d=>tF P F N a c&&tF P F N b d
 | .cond x a b,.cond y c d=>m7 F x y&&tF P F N a c&&tF P F N b d
 | .block id a,.block id' c=>id==id'&&tF P F N a c
 | .loop a,.loop c=>tF P F N a c
 | .exit id,.exit id'=>id==id'
 | .ret,.ret=>true
 | .shut _ a,c=>tF P F N a c
 |_,_=>false
def F6:Out→Exit
 | .normal=> .normal
 | .exit id=> .exit id
 | .ret=> .ret
theorem Kd{cf:cI}(hcf:r_ P F cf)(k:Nat):∀(c:C) (c':Code) (_hs:tF P F N c c'=true) {Q:Exit→Act→World→Prop} {s s':St} {out:Out} {E:Nat→Option Loc} {a:Act} {w:World},
  Rel F Pr w0 lb N E (fun k=>k<s.n) s.t s.o a w→cz cf k c s=some (out,s')→
  (∀E' a' w',Rel F Pr w0 lb N E' (fun k=>k<s'.n) s'.t s'.o a' w'→Q (F6 out) a' w')→c'.wp P Q a w:=by
 intro c
 induction c with
 |skip=>
  intro c' hs Q s s' out E a w R h hq;cases c'<;>first|(simp[tF] at hs;done)|skip
  simp only[cz,aH,aR] at h;obtain⟨rfl,rfl⟩:=h;exact wp_skip (hq E a w R)
 |ai ops kt ko=>
  intro c' hs Q s s' out E a w R h hq;cases c' with
  |region id xs draw=>
   cases draw with
   |true=>simp[tF] at hs
   |false=>
    simp only[tF] at hs;simp only[cz,al,aR] at h;obtain⟨r,hr,rfl,rfl⟩:=h;refine wp_region_list (wD (i:=0) hcf R hs hr ?_);intro E' a' w' R';exact hq E' a' w' (by simpa using R'.keep kt ko)
  |_=>simp[tF] at hs
 |gV ops anc kt ko=>
  intro c' hs Q s s' out E a w R h hq;cases c' with
  |region id xs draw=>
   cases draw with
   |false=>simp[tF] at hs
   |true=>
    simp only[tF,Ft,aj,beq_iff_eq] at hs;obtain⟨⟨hm,hsz⟩,hok⟩:=hs;simp only[cz,al,aR] at h;obtain⟨r,hr,rfl,rfl⟩:=h;obtain⟨es,hlen,rfl,hes⟩:=ve hr;have z:∀(es:List oK) (i:Nat) (t:List (Nat×V)),mD (fun j=>(Array.replicate xs.size false).getD j false) i es t=t:=by
     intro es
     induction es with
     |nil=>intro i t;rfl
     |cons e es ih=>intro i t;simp only[mD];rw[if_neg (by simp[Array.getElem?_replicate];split<;>simp)];exact ih _ _
    have z2:∀(es:List oK) (i:Nat) (t:List (Nat×Ob)),mW (fun j=>(Array.replicate xs.size false).getD j false) i es t=t:=by
     intro es
     induction es with
     |nil=>intro i t;rfl
     |cons e es ih=>intro i t;simp only[mW];rw[if_neg (by simp[Array.getElem?_replicate];split<;>simp)];exact ih _ _
    refine wp_region_any hm (Gg (E:=E) hcf hsz hok (fun j m hj=> ?_) hlen (fun E' a' w' R'=>hq E' a' w' (R'.keep kt ko)) xs.size _ (by simp) (Nat.le_trans (bG _ _) (by simp)) ?_ ?_)
    ·obtain⟨a',e,q1,q2,q3,_,q5⟩:=hes j m hj;refine⟨a',e,q1,q2, ?_,fun j' e' h1 h2=> ?_⟩
     ·simpa only[Nat.zero_add] using q3
     ·have:=q5 j' e' h1 h2;simpa only[Nat.zero_add] using this
    ·intro i b _ hi;exfalso;revert hi;simp[Array.getElem?_replicate];split<;>simp
    ·rw[z,z2];exact Rel.same (w':={w with drawn:=w.drawn+1}) (n':=NS s.n fun j=>(Array.replicate xs.size false).getD j false) R rfl rfl rfl rfl (fun k hk=>Or.inl hk)
  |_=>simp[tF] at hs
 |seq x y ihx ihy=>
  intro c' hs Q s s' out E a w R h hq;cases c'<;>first|(simp[tF] at hs;done)|skip
  simp only[tF,aj] at hs;simp only[cz] at h;split at h
  ·rename_i s1 h1;exact wp_seq (ihx _ hs.1 R h1 fun E' a' w' R'=>ihy _ hs.2 R' h hq)
  ·rename_i hne;refine wp_seq (ihx _ hs.1 R h fun E' a' w' R'=> ?_);cases out with
   |normal=>exact(hne _ h).elim
   |exit id=>exact hq E' a' w' R'
   |ret=>exact hq E' a' w' R'
 |cond x y z ihy ihz=>
  intro c' hs Q s s' out E a w R h hq;cases c'<;>first|(simp[tF] at hs;done)|skip
  simp only[tF,aj] at hs;simp only[cz] at h;split at h
  ·rename_i hb;exact wp_cond (o7 R hs.1.1 hb) (ihy _ hs.1.2 R h hq)
  ·rename_i hb;exact wp_cond (o7 R hs.1.1 hb) (ihz _ hs.2 R h hq)
  ·cases h
 |block id x ih=>
  intro c' hs Q s s' out E a w R h hq;cases c'<;>first|(simp[tF] at hs;done)|skip
  simp only[tF,aj,beq_iff_eq] at hs;obtain⟨rfl,hs⟩:=hs;simp only[cz] at h;split at h
  ·rename_i id' s1 h1;simp only[aH] at h;refine wp_block (ih _ hs R h1 fun E' a' w' R'=> ?_);simp only[F6,Exit.inBlock];split at h
   ·rename_i e;simp only[aR] at h;obtain⟨rfl,rfl⟩:=h;rw[if_pos e];exact hq E' a' w' R'
   ·rename_i e;simp only[aR] at h;obtain⟨rfl,rfl⟩:=h;rw[if_neg e];exact hq E' a' w' R'
  ·rename_i hne;refine wp_block (ih _ hs R h fun E' a' w' R'=> ?_);cases out with
   |normal=>exact hq E' a' w' R'
   |exit id'=>exact(hne _ _ h).elim
   |ret=>exact hq E' a' w' R'
 |loop x ih=>
  intro c' hs Q s s' out E a w R h hq;cases c'<;>first|(simp[tF] at hs;done)|skip
  rename_i body;simp only[tF] at hs;simp only[cz] at h;refine wp_loop_rounds k ?_;have key:∀(m:Nat) {s:St} {E:Nat→Option Loc} {a:Act} {w:World},Rel F Pr w0 lb N E (fun k=>k<s.n) s.t s.o a w→fx (cz cf k x) m s=some (out,s')→Code.rounds P body Q m a w:=by
   intro m
   induction m with
   |zero=>intro s E a w R h;simp[fx] at h
   |succ m ihm=>
    intro s E a w R h;rw[rounds_succ];simp only[fx] at h;split at h
    ·rename_i s1 h1;exact ih _ hs R h1 fun E' a' w' R'=>ihm R' h
    ·rename_i hne;refine ih _ hs R h fun E' a' w' R'=> ?_
     cases out with
     |normal=>exact(hne _ h).elim
     |exit id=>exact hq E' a' w' R'
     |ret=>exact hq E' a' w' R'
  exact key k R h
 |exit id=>
  intro c' hs Q s s' out E a w R h hq;cases c'<;>first|(simp[tF] at hs;done)|skip
  simp only[tF,beq_iff_eq] at hs;subst hs;simp only[cz,aH,aR] at h;obtain⟨rfl,rfl⟩:=h;exact wp_exit (hq E a w R)
 |ret=>
  intro c' hs Q s s' out E a w R h hq;cases c'<;>first|(simp[tF] at hs;done)|skip
  simp only[cz,aH,aR] at h;obtain⟨rfl,rfl⟩:=h;exact wp_ret (hq E a w R)
 |shut ids x ih=>
  intro c' hs Q s s' out E a w R h hq;have hs':tF P F N x c'=true:=by rw[tF] at hs;exact hs
  simp only[cz] at h;exact ih c' hs' (R.shut ids) h hq
def CZ(P:Program):List R→List ResultVar→Bool
 |[],[]=>true
 | .tmp x::rs,.tmp y::qs=>x==y&&CZ P rs qs
 | .cell x agg k::rs,.cell y ty::qs=>x==y&&(oa P ty==some agg)&&(ld P ty==some k)&&CZ P rs qs
 |_,_=>false
theorem vU{ty:TypeId}{ad:Addr}{cs:List Value}(ha:oa P ty=some true)(hs:ld P ty=some cs.length)
  (h:∀(q:Nat) (v:Value),cs[q]? =some v→w.cell? (ad.add q)=some v):(loadVar ty ad).run P w= .ok (.agg cs.toArray) w:=by
 simp only[loadVar,Sem.run_bind,Result.andThen_ok,mO ha,if_true,iq hs];rw[run_loadCells_list w ad cs h];simp
theorem vT{ty:TypeId}{ad:Addr}{v:Value}(ha:oa P ty=some false)(h:w.cell? ad=some v):(loadVar ty ad).run P w= .ok v w:=by
 simp[loadVar,mO ha,h]
def o6(tmps:Array Value):ResultVar→Sem Value
 | .tmp t=>pure (tmps.getD t undef)
 | .cell a t=>do loadVar t (←asAddr (tmps.getD a undef))
theorem BZ(R:Rel F Pr w0 lb N E n t o a w){r:Mx.R}{q:ResultVar}(hok:CZ P [r] [q]=true){v:V}(h:Fm t o r=some v):∃x,(o6 a.tmps q).run P w= .ok x w∧kQ (cx F Pr E o w) v x:=by
 cases r with
 |tmp d=>
  cases q with
  |tmp d'=>
   simp only[CZ,Bool.and_true,beq_iff_eq] at hok;subst hok;exact⟨_,rfl,R.tmps d v h⟩
  |cell=>simp[CZ] at hok
 |cell d agg k=>
  cases q with
  |tmp=>simp[CZ] at hok
  |cell d' ty=>
   simp only[CZ,Bool.and_true,aj,beq_iff_eq] at hok;obtain⟨⟨rfl,ha⟩,hs⟩:=hok;simp only[Fm] at h;split at h
   ·rename_i x hx;split at h
    ·rename_i r j hp;obtain⟨ad,hv,hcells⟩:=yG R (R.tmps d _ hx).xQ hp;have hrun:∀val,(loadVar ty ad).run P w= .ok val w→(o6 a.tmps (.cell d ty)).run P w= .ok val w:=by
      intro val hl;simp[o6,hv,asAddr,hl]
     split at h
     ·rename_i hagg;subst hagg;split at h
      ·rename_i hk;cases h;obtain⟨cs,hl,hrep,hc⟩:=yE (X:=cx F Pr E o w) hcells hk;exact⟨_,hrun _ (vU ha (by rw[hl];exact hs) hc),.KB hrep⟩
      ·cases h
     ·rename_i hagg;have hagg':agg=false:=by cases agg<;>simp_all
      subst hagg';rw[al] at h;obtain⟨c,hc,rfl⟩:=h;obtain⟨u,hu,hr⟩:=hcells 0 c (by simpa using hc);rw[add_zero] at hu;exact⟨u,hrun _ (vT ha hu),.c _ _ hr⟩
    ·cases h
   ·cases h
theorem vP(R:Rel F Pr w0 lb N E n t o a w):∀{rs:List Mx.R} {qs:List ResultVar} {vs:List V},CZ P rs qs=true→h_ (Fm t o) rs=some vs→
  ∃xs:List Value,(qs.mapM (o6 a.tmps)).run P w= .ok xs w∧vs.length=xs.length∧∀(i:Nat) (v:V) (x:Value),vs[i]? =some v→xs[i]? =some x→kQ (cx F Pr E o w) v x
 |[],[],vs,_,h=>by simp[h_] at h;subst h;exact⟨[],rfl,rfl,fun i v x h=>by simp at h⟩
 |r::rs,q::qs,vs,hok,h=>by
  simp only[h_] at h;split at h
  ·rename_i v vs' h1 h2;cases h;have hok2:CZ P [r] [q]=true∧CZ P rs qs=true:=by
    cases r<;>cases q<;>simp_all[CZ]
   obtain⟨x,hx,hr⟩:=BZ R hok2.1 h1;obtain⟨xs,hxs,hl,hrs⟩:=vP R hok2.2 h2;refine⟨x::xs,by simp[List.mapM_cons,hx,hxs],by simp[hl],fun i u z hu hz=> ?_⟩;cases i with
   |zero=>simp at hu hz;subst hu hz;exact hr
   |succ i=>exact hrs i u z (by simpa using hu) (by simpa using hz)
  ·cases h
 |[],_::_,_,hok,_=>by simp[CZ] at hok
 |r::_,[],_,hok,_=>by cases r<;>simp[CZ] at hok
theorem Ar{fn:Func}{tmps:Array Value}{xs:List Value}(h:(fn.results.toList.mapM (o6 tmps)).run P w= .ok xs w):
  (results fn tmps).run P w= .ok (if h:xs.length=1 then xs[0] else .tuple xs.toArray) w:=by
 have hr:results fn tmps=(do
  let vs ←fn.results.mapM (o6 tmps)
  pure (if h:vs.size=1 then vs[0] else .tuple vs)):=rfl
 rw[hr,Array.mapM_eq_mapM_toList];simp[h]
theorem qN{o:List (Nat×Ob)}:∀{lent after:List (Nat×Ob)},so o lent=some after→∀p ob,get lent p=some ob→∃b b',get o p=some b∧b.ct=p∧b.w=true∧get after p=some b'∧
  (b'=b∧b.bx=false∨∃rows,h_ (fun r=>h_ (cl o) r) b.rows=some rows∧b'={b with rows:=rows})
 |[],_,_,p,ob,hg=>by simp[get] at hg
 |(p',ob')::lent,after,h,p,ob,hg=>by
  simp only[so] at h;split at h
  ·rename_i b l' hb hl;split at h
   ·rename_i hc;by_cases e:p=p'
    ·subst e;split at h
     ·rw[al] at h;obtain⟨rows,hm,rfl⟩:=h;exact⟨b,_,hb,hc.1,hc.2,sX _ _ _,.inr ⟨rows,hm,rfl⟩⟩
     ·rename_i hbx;cases h;exact⟨b,b,hb,hc.1,hc.2,sX _ _ _,.inl ⟨rfl,by simpa using hbx⟩⟩
    ·rw[rP e] at hg;obtain⟨b1,b2,g1,g2,g3,g4,g5⟩:=qN hl p ob hg;split at h
     ·rw[al] at h;obtain⟨rows,hm,rfl⟩:=h;exact⟨b1,b2,g1,g2,g3,by rw[rP e];exact g4,g5⟩
     ·cases h;exact⟨b1,b2,g1,g2,g3,by rw[rP e];exact g4,g5⟩
   ·cases h
  ·cases h
def pM(E:Nat→Option Loc)(o:List (Nat×Ob))(np:Nat)(raw:List T)(q:Nat):Option Loc:=
 match raw[q]? with
 |some (.row id _ _ _)=>if om np id then none else(match get o id with|some b=>if b.w then E b.ct else none|none=>none)
 |some (.ptr id _ _ _)=>if om np id then none else(match get o id with|some b=>if b.w then E b.ct else none|none=>none)
 |some (.aL _)=>some .nil
 |_=>none
def CY(np:Nat)(o:List (Nat×Ob)):T→List Nat
 | .row id _ _ _=>if om np id then [] else(match get o id with|some b=>if b.w then [id] else []|none=>[])
 | .ptr id _ _ _=>if om np id then [] else(match get o id with|some b=>if b.w then [id] else []|none=>[])
 |_=>[]
theorem si{np q b cap sz:Nat}{raw:List T}(h:pM E o np raw q=some (.kP b cap sz)):∃x id ob,raw[q]? =some x∧CY np o x=[id]∧om np id=false∧get o id=some ob∧ob.w=true∧E ob.ct=some (.kP b cap sz):=by
 unfold pM at h;split at h
 ·rename_i id ct off len hq;split at h
  ·cases h
  ·rename_i hnp;split at h
   ·rename_i ob hg;split at h
    ·rename_i hw;exact⟨_,id,ob,hq,by simp[CY,hnp,hg,hw],by simpa using hnp,hg,hw,h⟩
    ·cases h
   ·cases h
 ·rename_i id ct off len hq;split at h
  ·cases h
  ·rename_i hnp;split at h
   ·rename_i ob hg;split at h
    ·rename_i hw;exact⟨_,id,ob,hq,by simp[CY,hnp,hg,hw],by simpa using hnp,hg,hw,h⟩
    ·cases h
   ·cases h
 ·cases h
 ·cases h
theorem vD{α:Type}{g:α→List Nat}:∀{l:List α},(l.flatMap g).Nodup→∀{i j:Nat} {x y:α} {k:Nat},l[i]? =some x→l[j]? =some y→k∈g x→k∈g y→i=j
 |[],_,i,_,_,_,_,h,_,_,_=>by simp at h
 |z::l,hn,i,j,x,y,k,hi,hj,hx,hy=>by
  simp only[cj,List.nodup_append] at hn;obtain⟨h1,h2,h3⟩:=hn;cases i with
  |zero=>
   cases j with
   |zero=>rfl
   |succ j=>
    simp at hi hj;subst hi;exact(h3 k hx k (List.mem_flatMap.2 ⟨y,jI hj,hy⟩) rfl).elim
  |succ i=>
   cases j with
   |zero=>
    simp at hi hj;subst hj;exact(h3 k hy k (List.mem_flatMap.2 ⟨x,jI hi,hx⟩) rfl).elim
   |succ j=>rw[vD h2 (i:=i) (j:=j) (by simpa using hi) (by simpa using hj) hx hy]
section fin
variable {X:Cx} {np:Nat} {raw:List T} {lent:List (Nat×Ob)} (R:Rel F Pr w0 lb N E n t o a w) (K:mH (cx F Pr E o w) X) (hw:X.w=w)
 (hl:∀p ob,get lent p=some ob→∃b,get o p=some b∧b.ct=p)
include R K hw hl
theorem Dc{q:Nat}{x y:T}{v:Value}(hq:raw[q]? =some x)(h:t_ np o x=some y)(hr:j7 (cx F Pr E o w) x v):tq X (pM E o np raw) lent q y v:=by
 cases x with
 |int k m=>simp[t_] at h;subst h;cases hr;exact .int _ _
 |bool b=>simp[t_] at h;subst h;cases hr;exact .bool _
 |str s=>simp[t_] at h;subst h;cases hr;exact .str _
 |aL sz=>
  simp[t_] at h;subst h;cases hr;exact .own sz [] .nil (by simp[pM,hq]) ⟨rfl,rfl⟩
 |sl own sz rows=>
  simp[t_] at h;subst h;cases hr with
  |sl _ _ _ A c vs h1 h2 h3 h4 h5=>exact .sh _ _ _ ((j7.sl (X:=cx F Pr E o w) false _ _ A c vs h1 h2 h3 h4 h5).mono K)
 |row id ct off len=>
  simp only[t_] at h;split at h
  ·rename_i b hg;split at h
   ·rename_i hc;obtain⟨hver,hbx,hfit⟩:=hc;split at h
    ·rename_i hlt;cases h;refine .row id ct off len v fun ob hob=> ?_
     obtain⟨b',h1,h2⟩:=hl id ob hob;rw[hg] at h1;cases h1;have:ct=id:=by rw[←hver,h2]
     subst this;exact hr.mono K
    ·rename_i hge;split at h
     ·rename_i hc2;cases h;obtain⟨_,l,hloc,hrl⟩:=R.oc id b hg;have ho:pM E o np raw q=some l:=by
       simp only[pM,hq,if_neg hge,hg,hc2.1,if_true];exact hloc
      have hoff:off=0:=by simpa using hc2.2
      subst hoff;have hlen:(b.rows.take len).length=len:=by simp;omega
      cases hr with
      |row _ _ _ _ cap sz bk hE' hl' ho'=>
       rw[hver] at hloc;rw[show (cx F Pr E o w).E ct=E ct from rfl,hloc] at hE';cases hE';obtain⟨e,hl0,hwid,hcl,cs,e1,fr,m1,m2,m3,m4⟩:=hrl;subst e;have:=tq.own (X:=X) (lent:=lent) (q:=q) b.sz (b.rows.take len) (.kP bk cap b.sz) ho
        ⟨rfl,by simp only[hlen];omega,qx hwid,fun _ i j r t hi ht=>hcl hbx i j r t (by rw[b8] at hi;split at hi;exact hi;cases hi) ht,cs,e1,fr,by rw[hw];exact m1,m2,m3,fun i j r t hi ht=>by
         rw[b8] at hi;split at hi
         ·obtain⟨v,q1,q2⟩:=m4 i j r t hi ht;exact⟨v,q1,q2.mono K⟩
         ·cases hi⟩
       simp only[hlen,HQ] at this;simpa [add_zero] using this
      |oi _ _ hE'=>
       rw[hver] at hloc;rw[show (cx F Pr E o w).E ct=E ct from rfl,hloc] at hE';cases hE';have:=tq.own (X:=X) (lent:=lent) (q:=q) b.sz (b.rows.take 0) .nil ho ⟨by simp,rfl⟩;simpa [HQ] using this
     ·split at h
      ·cases h
      ·rename_i hnw;cases h;exact .sh _ _ _ ((CU R hg hver hfit (by simpa using hnw) hbx hr).mono K)
   ·cases h
  ·cases h
 |ptr id ct i j=>
  simp only[t_] at h;split at h
  ·rename_i b hg;split at h
   ·rename_i hc;obtain⟨hver,hbw,hbx,rfl,rfl,hlt⟩:=hc;split at h
    ·rename_i r hrows;rw[al] at h;obtain⟨r',hm,rfl⟩:=h;obtain⟨_,l,hloc,hrl⟩:=R.oc id b hg;have ho:pM E o np raw q=some l:=by
      simp only[pM,hq,hlt,aB,if_false,hg,hbw,if_true];exact hloc
     cases hr with
     |ptr _ _ _ _ bk cap sz hE'=>
      rw[hver] at hloc;rw[show (cx F Pr E o w).E ct=E ct from rfl,hloc] at hE';cases hE';obtain⟨e,hl0,hwid,hcl,cs,e1,fr,m1,m2,m3,m4⟩:=hrl;subst e;have hr0:b.rows[0]? =some r:=by rw[hrows];rfl
      have hlen:r'.length=b.sz:=by rw[kD hm];exact hwid 0 r hr0
      have key:∀(j:Nat) (t:T),r'[j]? =some t→∃v,cs[0*b.sz+j]? =some v∧j7 (cx F Pr E o w) t v∧ff t:=by
       intro j t ht;obtain⟨t0,k3,k4⟩:=mm hm ht;obtain⟨v,q1,q2⟩:=m4 0 j r t0 hr0 k3;exact⟨v,q1,xN R k4 q2,sy R k4 q2⟩
      have:=tq.box (X:=X) (own:=pM E o np raw) (lent:=lent) (q:=q) r' bk cap (by rw[hlen];exact ho)
       ⟨rfl,by rw[hrows] at hl0;simpa using hl0,fun i r0 hi=>by cases i with|zero=>simp at hi;subst hi;rfl|succ i=>simp at hi,
        fun hb=>by simp at hb,cs,e1,fr,by rw[hw];exact m1,by simp only[hlen];exact m2,m3,fun i j r0 t hi ht=>by
         cases i with
         |zero=>simp at hi;subst hi;obtain⟨v,q1,q2,_⟩:=key j t ht;exact⟨v,by simpa using q1,q2.mono K⟩
         |succ i=>simp at hi⟩
       (fun j t ht=>(key j t ht).choose_spec.2.2)
      simpa [add_zero] using this
    ·cases h
   ·cases h
  ·cases h
 |vp=>simp[t_] at h
 |fn=>simp[t_] at h
theorem Dd:∀{q:Nat} {xs ys:List T} {vs:List Value},(∀(j:Nat) (x:T),xs[j]? =some x→raw[q+j]? =some x)→h_ (t_ np o) xs=some ys→g_ (cx F Pr E o w) xs vs→Ez X (pM E o np raw) lent q ys vs
 |q,[],ys,vs,hq,h,hr=>by
  simp[h_] at h;subst h;have:=hr.1;cases vs with
  |nil=>trivial
  |cons=>simp at this
 |q,x::xs,ys,vs,hq,h,hr=>by
  simp only[h_] at h;split at h
  ·rename_i y ys' h1 h2;cases h;obtain⟨v,vs',rfl,r1,r2⟩:=hr.wu;exact⟨Dc R K hw hl (by simpa using hq 0 x (by simp)) h1 r1,Dd (fun j z hz=>by rw[show q+1+j=q+(j+1) from by omega];exact hq (j+1) z (by simpa using hz)) h2 r2⟩
  ·cases h
theorem Is{q:Nat}{x y:V}{v:Value}(hq:∀(j:Nat) (c:T),(x.cells.getD [])[j]? =some c→raw[q+j]? =some c)(h:V.fin np o x=some y)(hr:kQ (cx F Pr E o w) x v):
  vZ X (pM E o np raw) lent q y v∧y.width=(x.cells.getD []).length:=by
 cases hr with
 |c x v hr=>
  simp only[V.fin,al] at h;obtain⟨y,hy,rfl⟩:=h;exact⟨Dc R K hw hl (by simpa using hq 0 x (by simp[V.cells])) hy hr,rfl⟩
 |a xs cs hn hr=>
  simp only[V.fin,al] at h;obtain⟨ys,hy,rfl⟩:=h;refine⟨Dd R K hw hl (xs:=xs) (by simpa [V.cells] using hq) hy ⟨by simpa using hn,fun i t v ht hv=>hr i t v ht (by simpa using hv)⟩, ?_⟩;simp[V.width,V.cells,kD hy]
 |lM=>simp[V.fin] at h
 |undef=>simp[V.fin] at h
theorem AU:∀{q:Nat} {xs ys:List V} {vs:List Value},(∀(j:Nat) (c:T),(xs.flatMap fun x=>x.cells.getD [])[j]? =some c→raw[q+j]? =some c)→h_ (V.fin np o) xs=some ys→
  xs.length=vs.length→(∀(i:Nat) (x:V) (v:Value),xs[i]? =some x→vs[i]? =some v→kQ (cx F Pr E o w) x v)→vQ X (pM E o np raw) lent q ys vs
 |q,[],ys,vs,hq,h,hn,hr=>by
  simp[h_] at h;subst h;cases vs with
  |nil=>trivial
  |cons=>simp at hn
 |q,x::xs,ys,vs,hq,h,hn,hr=>by
  simp only[h_] at h;split at h
  ·rename_i y ys' h1 h2;cases h;cases vs with
   |nil=>simp at hn
   |cons v vs=>
    obtain⟨k1,k2⟩:=Is R K hw hl (q:=q) (fun j c hc=>hq j c (by rw[cj,List.getElem?_append_left (List.getElem?_eq_some_iff.1 hc).1];exact hc)) h1 (hr 0 x v (by simp) (by simp));refine⟨k1,AU (fun j c hc=> ?_) h2 (by simpa using hn) (fun i x v hx hv=>hr (i+1) x v (by simpa using hx) (by simpa using hv))⟩;rw[k2,Nat.add_assoc];exact hq _ c (by rw[cj,List.getElem?_append_right (by omega),Nat.add_sub_cancel_left];exact hc)
  ·cases h
end fin
end Mx
namespace Mx
open Go
variable {P:Program} {F:Nat→FuncId} {Pr:Nat→Prop} {w0:World} {lb:Lb} {N:Nat} {E:Nat→Option Loc} {n:Nat→Prop} {t:List (Nat×V)} {o:List (Nat×Ob)} {a:Act} {w:World}
def aG(P:Program)(F:Nat→FuncId)(f:Nat)(b:Fn):Bool:=
 match P.funcs[F f]? with
 |some fn=>(fn.name != "runtime.NumGoroutine")&&decide (b.np≤fn.ntmps)&&CZ P b.res fn.results.toList&&(match fn.body with|some c=>tF P F fn.ntmps b.body c|none=>false)
 |none=>false
theorem sW:∀{m:Nat} {as:List V} {k d:Nat} {v:V},get ((List.range' k m).zip as) d=some v→k≤d∧as[d-k]? =some v
 |0,as,k,d,v,h=>by simp[get] at h
 |m+1,[],k,d,v,h=>by simp[get] at h
 |m+1,x::as,k,d,v,h=>by
  rw[List.range'_succ,List.zip_cons_cons] at h;simp only[get] at h;split at h
  ·rename_i e;cases h;subst e;simp
  ·obtain⟨h1,h2⟩:=sW h;refine⟨by omega, ?_⟩;rw[show d-k=(d-(k+1))+1 from by omega];simpa using h2
def Lh(lent:List (Nat×Ob))(E0:Nat→Option Loc):Lb:=⟨uh lent E0,E0⟩
theorem D6{E0:Nat→Option Loc}{as:List V}{lent:List (Nat×Ob)}{vals:Array Value}(En:Entry F Pr E0 as lent vals w){m:Nat}(hm:as.length≤m):
  Rel F Pr w (Lh lent E0) m E0 (fun k=>k<2000000) ((List.range as.length).zip as) lent {tmps:=vals++Array.replicate (m-vals.size) undef,defers:=[]} w:=by
 have hsz:vals.size=as.length:=En.n.symm;refine⟨rfl,rfl,rfl,Nat.le_refl _,fun _ _ _=>rfl,rfl,by simp;omega, ?_, ?_, ?_,En.pA,En.fresh,En.pr,fun _ _ h=>h⟩
 ·intro d v hv;rw[List.range_eq_range'] at hv;obtain⟨_,h2⟩:=sW hv;simp only[Nat.sub_zero] at h2;have hd:d<vals.size:=by rw[hsz];exact(List.getElem?_eq_some_iff.1 h2).1
  refine En.args d v _ h2 ?_;rw[dv,Array.getElem?_append_left hd,Array.getElem?_eq_getElem hd,jU]
 ·intro id ob hg;obtain⟨h1,h2,h3,l,h4,h5⟩:=En.oc id ob hg;exact⟨by rw[h1];exact h2.2,l,by rw[h1];exact h4,h5⟩
 ·intro id ob b cap sz hg hE;exact⟨En.place id ob b cap sz hg hE,.inr ⟨id,ob,cap,sz,hg,hE⟩⟩
theorem F4{E0:Nat→Option Loc}{as:List V}{lent:List (Nat×Ob)}{vals:Array Value}(En:Entry F Pr E0 as lent vals w0){np:Nat}(hnp:as.length=np)(R:Rel F Pr w0 (Lh lent E0) N E n t o a w)
  {rs vs:List V} {after:List (Nat×Ob)} {xs:List Value} (hlf:so o lent=some after) (hnd:(rs.flatMap (zt np o)).Nodup) (hfin:h_ (V.fin np o) rs=some vs)
  (hlen:rs.length=xs.length) (hrep:∀(i:Nat) (v:V) (x:Value),rs[i]? =some v→xs[i]? =some x→kQ (cx F Pr E o w) v x):
  CI F Pr E0 lent w0 E (pM E o np (rs.flatMap fun x=>x.cells.getD [])) (Hf vs) after (if h:xs.length=1 then xs[0] else .tuple xs.toArray) w:=by
 have hl:∀p ob,get lent p=some ob→∃b,get o p=some b∧b.ct=p:=by
  intro p ob hg;obtain⟨b,_,h1,h2,_⟩:=qN hlf p ob hg;exact⟨b,h1,h2⟩
 have hLB:∀bk,uh lent E0 bk→∃p b cap sz,get o p=some b∧b.w=true∧om np p=true∧E b.ct=some (.kP bk cap sz):=by
  rintro bk ⟨p,ob,cap,sz,h1,h2⟩;obtain⟨b,_,g1,g2,g3,_⟩:=qN hlf p ob h1;obtain⟨e1,e2,_⟩:=En.oc p ob h1;exact⟨p,b,cap,sz,g1,g3,by rw[←hnp];exact e2.1,by rw[g2,←e1];exact R.ext _ _ h2⟩
 have K:mH (cx F Pr E o w) (rx F Pr E0 lent E (pM E o np (rs.flatMap fun x=>x.cells.getD [])) w):=by
  refine⟨rfl,fun _ _ h=>h,fun ad v hu hc=>⟨hc, ?_⟩⟩;rintro (h|h|⟨q,cap,sz,h⟩)
  ·obtain⟨p,b,cap,sz,h1,h2,_,h3⟩:=hLB _ h;exact hu (.inl ⟨p,b,cap,sz,h1,h2,h3⟩)
  ·exact hu (.inr h)
  ·obtain⟨x,id,ob,_,_,_,h1,h2,h3⟩:=si h;exact hu (.inl ⟨id,ob,cap,sz,h1,h2,h3⟩)
 have hflat:rs.flatMap (zt np o)=(rs.flatMap fun x=>x.cells.getD []).flatMap (CY np o):=by
  rw[List.flatMap_assoc];congr 1
 refine⟨R.os,R.tape,R.output,R.size,R.frame,fun ct l h=>R.ext ct l h, ?_, ?_, ?_, ?_⟩
 ·intro q b cap sz h;obtain⟨x,id,ob,_,_,hge,h1,h2,h3⟩:=si h;obtain⟨p1,p2⟩:=R.place id ob b cap sz h1 h3;refine⟨.inl ?_,p1⟩;rcases p2 with p2|p2
  ·exact p2
  ·obtain⟨p,b',cap',sz',g1,g2,g3,g4⟩:=hLB _ p2;have:=R.pA id p ob b' b cap sz cap' sz' h1 g1 h3 g4;rw[this,g3] at hge;cases hge
 ·intro q q' b cap sz cap' sz' h h';obtain⟨x,id,ob,e1,e2,_,h1,h2,h3⟩:=si h;obtain⟨x',id',ob',e1',e2',_,h1',h2',h3'⟩:=si h';have:=R.pA id id' ob ob' b cap sz cap' sz' h1 h1' h3 h3';subst this;rw[hflat] at hnd;exact vD hnd e1 e1' (k:=id) (by rw[e2];simp) (by rw[e2'];simp)
 ·have hvs:=AU R K rfl hl (raw:=rs.flatMap fun x=>x.cells.getD []) (q:=0) (fun j c hc=>by simpa using hc) hfin hlen hrep;have hvl:vs.length=xs.length:=by rw[kD hfin,hlen]
  cases vs with
  |nil=>
   cases xs with
   |nil=>exact hvs
   |cons=>simp at hvl
  |cons v vs=>
   cases vs with
   |nil=>
    cases xs with
    |nil=>simp at hvl
    |cons x xs=>
     cases xs with
     |cons=>simp at hvl
     |nil=>
      simp only[Hf,bM,dite_true,List.getElem_cons_zero];have h1:=hvs.1;cases v with
      |c=>exact h1
      |a=>exact h1
      |lM=>simp[vZ] at h1
      |undef=>simp[vZ] at h1
   |cons v' vs=>
    cases xs with
    |nil=>simp at hvl
    |cons x xs=>
     cases xs with
     |nil=>simp at hvl
     |cons x' xs=>
      have:¬(x::x'::xs).length=1:=by simp
      rw[dif_neg this];exact hvs
 ·intro p ob ob' l hg ha hE;obtain⟨b,b',g1,g2,g3,g4,g5⟩:=qN hlf p ob hg;rw[ha] at g4;cases g4;obtain⟨e1,e2,e3,l',e4,e5⟩:=En.oc p ob hg;rw[hE] at e4;cases e4;obtain⟨_,l2,hl2,hrl⟩:=R.oc p b g1;rw[g2,R.ext p l hE] at hl2;cases hl2;cases l with
  |nil=>
   have hb:b.rows=[]:=hrl.1;rcases g5 with⟨rfl,hbx⟩|⟨rows,hm,rfl⟩
   ·exact⟨⟨hb,e5.2⟩,fun i j r t hi=>by rw[hb] at hi;simp at hi⟩
   ·rw[hb] at hm;simp[h_] at hm;subst hm;exact⟨⟨rfl,e5.2⟩,fun i j r t hi=>by simp at hi⟩
  |kP bk cap sz=>
   obtain⟨q1,q2⟩:=hrl;have q3:sz=ob.sz:=e5.1;rcases g5 with⟨rfl,hbx⟩|⟨rows,hm,rfl⟩
   ·exact⟨⟨q3,q2.move rfl rfl (by simp only;omega) (fun _=>q2.cl hbx) fun i j r t v _ _ hv=>hv.mono K⟩,q2.cl hbx⟩
   ·obtain⟨hlen',hwid,hcl,cs,e,fr,m1,m2,m3,m4⟩:=q2;have key:∀(i j:Nat) (r:List T) (t:T),rows[i]? =some r→r[j]? =some t→∃v,cs[i*b.sz+j]? =some v∧j7 (cx F Pr E o w) t v∧ff t:=by
     intro i j r t hi ht;obtain⟨r0,k1,k2⟩:=mm hm hi;obtain⟨t0,k3,k4⟩:=mm k2 ht;obtain⟨v,m1,m2⟩:=m4 i j r0 t0 k1 k3;exact⟨v,m1,xN R k4 m2,sy R k4 m2⟩
    have hclo:∀(i j:Nat) (r:List T) (t:T),rows[i]? =some r→r[j]? =some t→ff t:=fun i j r t hi ht=>(key i j r t hi ht).choose_spec.2.2
    have hbs:ob.sz=b.sz:=by omega
    refine⟨⟨q3,by simp only[kD hm];exact hlen', ?_,fun _=>hclo,cs,e,fr,m1,by simp only;rw[hbs];exact m2,m3, ?_⟩,hclo⟩
    ·intro i r hi;obtain⟨r0,k1,k2⟩:=mm hm hi;simp only;rw[kD k2,hbs];exact hwid i r0 k1
    ·simp only;rw[hbs];intro i j r t hi ht;obtain⟨v,m1,m2,_⟩:=key i j r t hi ht;exact⟨v,m1,m2.mono K⟩
theorem Ke{cf:cI}(hcf:r_ P F cf){k f:Nat}{b:Fn}(hok:aG P F f b=true){as:List V}{lent:List (Nat×Ob)}{res:V}{after:List (Nat×Ob)}(h:ba cf k b as lent=some (res,after)):
  yf P F f=true∧∀Pr E0 vals w,Entry F Pr E0 as lent vals w→Calls P (F f) vals w fun e w'=>∃val E' own,e= .returned val∧CI F Pr E0 lent w E' own res after val w':=by
 unfold aG at hok;split at hok
 ·rename_i fn hfn;simp only[aj,decide_eq_true_eq] at hok;obtain⟨⟨⟨hname,hnp⟩,hres⟩,hbody⟩:=hok;split at hbody
  ·rename_i c hc;refine⟨by simp[yf,hfn,hc];simpa using hname, ?_⟩;intro Pr E0 vals w En;unfold ba at h;split at h
   ·rename_i hlen;have R0:=D6 En (m:=fn.ntmps) (by omega);rw[hlen] at R0;refine calls_of_wp hfn hc ?_;split at h
    ·cases h
    ·rename_i out s hne hex;split at h
     ·rename_i rs after' hrs hlf;split at h
      ·rename_i hnd;rw[al] at h;obtain⟨vs,hvs,he⟩:=h;simp only[aR] at he;obtain⟨rfl,rfl⟩:=he;refine Kd hcf k b.body c hbody (s:={t:=(List.range b.np).zip as,o:=lent,n:=2000000}) R0 hex ?_;intro E' a' w' R';obtain⟨xs,hxs,hl,hrep⟩:=vP R' hres hrs;have hrun:=Ar hxs;have B:=F4 En hlen R' hlf hnd hvs hl hrep;cases out with
       |exit id=>exact(hne _ rfl).elim
       |normal=>exact⟨R'.defers,_,hrun,_,_,_,rfl,B⟩
       |ret=>exact⟨R'.defers,_,hrun,_,_,_,rfl,B⟩
      ·cases h
     ·cases h
    ·cases h
   ·cases h
  ·cases hbody
 ·cases hok
def vS(P:Program)(F:Nat→FuncId)(f:Nat)(g:List V→List (Nat×Ob)→Option (V×List (Nat×Ob))):Prop:=
 ∀as lent res after,g as lent=some (res,after)→yf P F f=true∧∀Pr E0 vals w,Entry F Pr E0 as lent vals w→
  Calls P (F f) vals w fun e w'=>∃val E' own,e= .returned val∧CI F Pr E0 lent w E' own res after val w'
def sB(P:Program)(F:Nat→FuncId)(M:Nat→Option Body):Prop:=
 ∀f,match M f with
  |some (.code b)=>aG P F f b=true
  |some (.ext g)=>vS P F f g
  |none=>True
theorem F7{M:Nat→Option Body}(hM:sB P F M):∀k,r_ P F (yh M k)
 |0=>fun f as lent res after h=>by simp[yh] at h
 |k+1=>fun f as lent res after h=>by
  simp only[yh] at h;have hf:=hM f;split at h
  ·rename_i b hb;rw[hb] at hf;exact Ke (F7 hM k) hf h
  ·rename_i g hg;rw[hg] at hf;exact hf as lent res after h
  ·cases h
end Mx
namespace Mx
open Go
def Le(cf cf':cI):Prop:=∀f as lent r,cf f as lent=some r→cf' f as lent=some r
theorem Le.refl(cf:cI):Le cf cf:=fun _ _ _ _ h=>h
theorem vK{cf cf':cI}(h:Le cf cf'){n:Nat}{o:List (Nat×Ob)}{f:Nat}{vals:List V}{lend:List Nat}{thaw:List (Nat×Nat)}{r:V×List (Nat×Ob)}(hd:gh cf n o f vals lend thaw=some r):
  gh cf' n o f vals lend thaw=some r:=by
 unfold gh at hd ⊢;split at hd
 ·cases hd
 ·rename_i as ls b hargs;split at hd
  ·rename_i hc;rw[if_pos hc];split at hd
   ·cases hd
   ·rename_i res after hres;rw[h _ _ _ _ hres];exact hd
  ·cases hd
theorem Bl{cf cf':cI}(h:Le cf cf'){n d:Nat}{t:List (Nat×V)}{o:List (Nat×Ob)}{m:MO}{r:V×List (Nat×Ob)}(ha:act cf n d t o m=some r):act cf' n d t o m=some r:=by
 cases m with
 |call f as lend thaw=>
  simp only[act] at ha ⊢;split at ha
  ·exact vK h ha
  ·cases ha
 |oO x as=>
  simp only[act] at ha ⊢;split at ha
  ·exact vK h ha
  ·cases ha
 |_=>exact ha
theorem yv{cf cf':cI}(h:Le cf cf'){n i:Nat}{m:og}{t:List (Nat×V)}{o:List (Nat×Ob)}{r:List (Nat×V)×List (Nat×Ob)}(hs:step cf n i m t o=some r):step cf' n i m t o=some r:=by
 unfold step at hs ⊢;split at hs
 ·rw[al] at hs ⊢;obtain⟨x,hx,rfl⟩:=hs;exact⟨x,Bl h hx,rfl⟩
 ·exact hs
 ·cases hs
theorem qz{cf cf':cI}(h:Le cf cf'){n:Nat}:∀{ms:List og} {i:Nat} {t:List (Nat×V)} {o:List (Nat×Ob)} {r:List (Nat×V)×List (Nat×Ob)},steps cf n i ms t o=some r→steps cf' n i ms t o=some r
 |[],i,t,o,r,hs=>hs
 |m::ms,i,t,o,r,hs=>by
  simp only[steps] at hs ⊢;split at hs
  ·rename_i t' o' h1;rw[yv h h1];exact qz h hs
  ·cases hs
theorem xA{cf cf':cI}(h:Le cf cf'){n i:Nat}{m:og}{t:List (Nat×V)}{o:List (Nat×Ob)}{e:oK}(hs:oe cf n i m t o=some e):oe cf' n i m t o=some e:=by
 unfold oe at hs ⊢;split at hs
 ·rw[al] at hs ⊢;obtain⟨x,hx,rfl⟩:=hs;exact⟨x,Bl h hx,rfl⟩
 ·exact hs
 ·cases hs
theorem pJ{cf cf':cI}(h:Le cf cf'){n:Nat}:∀{ms:List og} {as:List (List Nat)} {i:Nat} {t:List (Nat×V)} {o:List (Nat×Ob)} {acc:List (Nat×oK)} {r:List (Nat×V)×List (Nat×Ob)},kf cf n i ms as t o acc=some r→kf cf' n i ms as t o acc=some r
 |[],as,i,t,o,acc,r,hs=>hs
 |m::ms,[],i,t,o,acc,r,hs=>by simp[kf] at hs
 |m::ms,a::as,i,t,o,acc,r,hs=>by
  simp only[kf] at hs ⊢;split at hs
  ·rename_i e he;rw[xA h he];simp only;split at hs
   ·rename_i hc;rw[if_pos hc];exact pJ h hs
   ·cases hs
  ·cases hs
theorem qM{f g:St→Option (Out×St)}(h:∀s r,f s=some r→g s=some r):∀{m m':Nat} (_:m≤m') {s:St} {r:Out×St},fx f m s=some r→fx g m' s=some r
 |0,_,_,s,r,hl=>by simp[fx] at hl
 |m+1,0,hm,_,_,_=>by omega
 |m+1,m'+1,hm,s,r,hl=>by
  simp only[fx] at hl ⊢;cases hf:f s with
  |none=>rw[hf] at hl;cases hl
  |some x=>
   obtain⟨out,s'⟩:=x;rw[hf] at hl;rw[h s _ hf];cases out with
   |normal=>exact qM h (by omega) hl
   |exit id=>exact hl
   |ret=>exact hl
theorem Ga{cf cf':cI}(h:Le cf cf'){k k':Nat}(hk:k≤k'):∀(c:C) {s:St} {r:Out×St},cz cf k c s=some r→cz cf' k' c s=some r:=by
 intro c
 induction c with
 |skip=>intro s r hs;exact hs
 |ai ops kt ko=>
  intro s r hs;simp only[cz,al] at hs ⊢;obtain⟨x,hx,rfl⟩:=hs;exact⟨x,qz h hx,rfl⟩
 |gV ops anc kt ko=>
  intro s r hs;simp only[cz,al] at hs ⊢;obtain⟨x,hx,rfl⟩:=hs;exact⟨x,pJ h hx,rfl⟩
 |seq a b iha ihb=>
  intro s r hs;simp only[cz] at hs ⊢;cases ha:cz cf k a s with
  |none=>rw[ha] at hs;cases hs
  |some x=>
   obtain⟨out,s'⟩:=x;rw[ha] at hs;rw[iha ha];cases out with
   |normal=>exact ihb hs
   |exit id=>exact hs
   |ret=>exact hs
 |cond c a b iha ihb=>
  intro s r hs;simp only[cz] at hs ⊢;split at hs
  ·rename_i hc;exact iha hs
  ·rename_i hc;exact ihb hs
  ·cases hs
 |block id a iha=>
  intro s r hs;simp only[cz] at hs ⊢;cases ha:cz cf k a s with
  |none=>rw[ha] at hs;cases hs
  |some x=>
   obtain⟨out,s'⟩:=x;rw[ha] at hs;rw[iha ha];exact hs
 |loop a iha=>
  intro s r hs;simp only[cz] at hs ⊢;exact qM (fun s r h=>iha h) hk hs
 |exit id=>intro s r hs;exact hs
 |ret=>intro s r hs;exact hs
 |shut ids a iha=>intro s r hs;simp only[cz] at hs ⊢;exact iha hs
theorem Ge{cf cf':cI}(h:Le cf cf'){k k':Nat}(hk:k≤k'){f:Fn}{as:List V}{lent:List (Nat×Ob)}{r:V×List (Nat×Ob)}(hs:ba cf k f as lent=some r):ba cf' k' f as lent=some r:=by
 unfold ba at hs ⊢;split at hs
 ·rename_i hn;rw[if_pos hn];cases hx:cz cf k f.body {t:=(List.range f.np).zip as,o:=lent,n:=2000000} with
  |none=>rw[hx] at hs;cases hs
  |some x=>
   rw[hx] at hs;rw[Ga h hk _ hx];exact hs
 ·cases hs
theorem nX(M:Nat→Option Body):∀{k k':Nat},k≤k'→Le (yh M k) (yh M k')
 |0,_,_=>fun f as lent r h=>by simp[yh] at h
 |k+1,0,hk=>by omega
 |k+1,k'+1,hk=>fun f as lent r h=>by
  have hk':k≤k':=by omega
  simp only[yh] at h ⊢;cases hM:M f with
  |none=>rw[hM] at h;cases h
  |some b=>
   rw[hM] at h;cases b with
   |code b=>exact Ge (nX M hk') hk' h
   |ext g=>exact h
noncomputable def run (M:Nat→Option Body):cI:=fun f as lent=>
 open Classical in if h:∃r,∃k,yh M k f as lent=some r then some h.choose else none
theorem v_{M:Nat→Option Body}{f:Nat}{as:List V}{lent:List (Nat×Ob)}{r:V×List (Nat×Ob)}:run M f as lent=some r↔∃k,yh M k f as lent=some r:=by
 unfold run;constructor
 ·intro h;split at h
  ·rename_i hx;cases h;exact hx.choose_spec
  ·cases h
 ·rintro ⟨k,hk⟩;have hx:∃r,∃k,yh M k f as lent=some r:=⟨r,k,hk⟩
  rw[dif_pos hx];obtain⟨k2,h2⟩:=hx.choose_spec;have e1:=nX M (Nat.le_max_left k k2) _ _ _ _ hk;have e2:=nX M (Nat.le_max_right k k2) _ _ _ _ h2;rw[e1] at e2;exact e2.symm
theorem JI{P:Program}{F:Nat→FuncId}{M:Nat→Option Body}(hM:sB P F M):r_ P F (run M):=by
 intro f as lent res after h;obtain⟨k,hk⟩:=v_.1 h;exact F7 hM k f as lent res after hk
section
variable {M:Nat→Option Body}
theorem Ds{n d:Nat}{t:List (Nat×V)}{o:List (Nat×Ob)}{m:MO}{r:V×List (Nat×Ob)}(h:act (run M) n d t o m=some r):∃k,act (yh M k) n d t o m=some r:=by
 have key:∀{f vals lend thaw},gh (run M) n o f vals lend thaw=some r→∃k,gh (yh M k) n o f vals lend thaw=some r:=by
  intro f vals lend thaw hd;unfold gh at hd;split at hd
  ·cases hd
  ·rename_i as ls b hargs;split at hd
   ·rename_i hc;split at hd
    ·cases hd
    ·rename_i res after hres;obtain⟨k,hk⟩:=v_.1 hres;refine⟨k, ?_⟩;unfold gh;rw[hargs];simp only;rw[if_pos hc,hk];exact hd
   ·cases hd
 cases m with
 |call f as lend thaw=>
  simp only[act] at h ⊢;split at h
  ·rename_i vals hv;exact key h
  ·cases h
 |oO x as=>
  simp only[act] at h ⊢;split at h
  ·exact key h
  ·cases h
 |_=>exact⟨0,h⟩
theorem yu{n:Nat}:∀{ms:List og} {i:Nat} {t:List (Nat×V)} {o:List (Nat×Ob)} {r:List (Nat×V)×List (Nat×Ob)},steps (run M) n i ms t o=some r→∃k,steps (yh M k) n i ms t o=some r
 |[],i,t,o,r,h=>⟨0,h⟩
 |m::ms,i,t,o,r,h=>by
  simp only[steps] at h;split at h
  ·rename_i t' o' h1;obtain⟨k2,h2⟩:=yu h;have:∃k1,step (yh M k1) n i m t o=some (t',o'):=by
    unfold step at h1;split at h1
    ·rename_i hw;rw[al] at h1;obtain⟨x,hx,hx2⟩:=h1;obtain⟨k,hk⟩:=Ds hx;refine⟨k, ?_⟩;unfold step;rw[hw];simp only[hk,iF,hx2]
    ·rename_i hw;refine⟨0, ?_⟩;unfold step;rw[hw];exact h1
    ·cases h1
   obtain⟨k1,h1'⟩:=this;refine⟨max k1 k2, ?_⟩;simp only[steps];rw[yv (nX M (Nat.le_max_left k1 k2)) h1'];exact qz (nX M (Nat.le_max_right k1 k2)) h2
  ·cases h
theorem wF{n:Nat}:∀{ms:List og} {as:List (List Nat)} {i:Nat} {t:List (Nat×V)} {o:List (Nat×Ob)} {acc:List (Nat×oK)} {r:List (Nat×V)×List (Nat×Ob)},kf (run M) n i ms as t o acc=some r→∃k,kf (yh M k) n i ms as t o acc=some r
 |[],as,i,t,o,acc,r,h=>⟨0,h⟩
 |m::ms,[],i,t,o,acc,r,h=>by simp[kf] at h
 |m::ms,a::as,i,t,o,acc,r,h=>by
  simp only[kf] at h;split at h
  ·rename_i e he;split at h
   ·rename_i hc;obtain⟨k2,h2⟩:=wF h;have:∃k1,oe (yh M k1) n i m t o=some e:=by
     unfold oe at he;split at he
     ·rename_i hw;rw[al] at he;obtain⟨x,hx,hx2⟩:=he;obtain⟨k,hk⟩:=Ds hx;refine⟨k, ?_⟩;unfold oe;rw[hw];simp only[hk,iF,hx2]
     ·rename_i hw;refine⟨0, ?_⟩;unfold oe;rw[hw];exact he
     ·cases he
    obtain⟨k1,h1⟩:=this;refine⟨max k1 k2, ?_⟩;simp only[kf];rw[xA (nX M (Nat.le_max_left k1 k2)) h1];simp only;rw[if_pos hc];exact pJ (nX M (Nat.le_max_right k1 k2)) h2
   ·cases h
  ·cases h
theorem Iw{k:Nat}:∀(c:C) {s:St} {r:Out×St},cz (run M) k c s=some r→∃K,∀k',K≤k'→cz (yh M k') (max k k') c s=some r:=by
 intro c
 induction c with
 |skip=>intro s r h;exact⟨0,fun _ _=>h⟩
 |ai ops kt ko=>
  intro s r h;simp only[cz,al] at h ⊢;obtain⟨x,hx,rfl⟩:=h;obtain⟨K,hK⟩:=yu hx;exact⟨K,fun k' hk'=>⟨x,qz (nX M hk') hK,rfl⟩⟩
 |gV ops anc kt ko=>
  intro s r h;simp only[cz,al] at h ⊢;obtain⟨x,hx,rfl⟩:=h;obtain⟨K,hK⟩:=wF hx;exact⟨K,fun k' hk'=>⟨x,pJ (nX M hk') hK,rfl⟩⟩
 |seq a b iha ihb=>
  intro s r h;simp only[cz] at h ⊢;cases ha:cz (run M) k a s with
  |none=>rw[ha] at h;cases h
  |some x=>
   obtain⟨out,s'⟩:=x;rw[ha] at h;obtain⟨K1,h1⟩:=iha ha;cases out with
   |normal=>
    obtain⟨K2,h2⟩:=ihb h;exact⟨max K1 K2,fun k' hk'=>by rw[h1 k' (by omega)];exact h2 k' (by omega)⟩
   |exit id=>exact⟨K1,fun k' hk'=>by rw[h1 k' hk'];exact h⟩
   |ret=>exact⟨K1,fun k' hk'=>by rw[h1 k' hk'];exact h⟩
 |cond c a b iha ihb=>
  intro s r h;simp only[cz] at h ⊢;split at h
  ·exact iha h
  ·exact ihb h
  ·cases h
 |block id a iha=>
  intro s r h;simp only[cz] at h ⊢;cases ha:cz (run M) k a s with
  |none=>rw[ha] at h;cases h
  |some x=>
   obtain⟨out,s'⟩:=x;rw[ha] at h;obtain⟨K1,h1⟩:=iha ha;exact⟨K1,fun k' hk'=>by rw[h1 k' hk'];exact h⟩
 |loop a iha=>
  intro s r h;simp only[cz] at h ⊢;have key:∀(m:Nat) {s:St},fx (cz (run M) k a) m s=some r→∃K,∀k',K≤k'→fx (cz (yh M k') (max k k') a) m s=some r:=by
   intro m
   induction m with
   |zero=>intro s h;simp[fx] at h
   |succ m ihm=>
    intro s h;simp only[fx] at h;cases ha:cz (run M) k a s with
    |none=>rw[ha] at h;cases h
    |some x=>
     obtain⟨out,s'⟩:=x;rw[ha] at h;obtain⟨K1,h1⟩:=iha ha;cases out with
     |normal=>
      obtain⟨K2,h2⟩:=ihm h;exact⟨max K1 K2,fun k' hk'=>by simp only[fx];rw[h1 k' (by omega)];exact h2 k' (by omega)⟩
     |exit id=>exact⟨K1,fun k' hk'=>by simp only[fx];rw[h1 k' hk'];exact h⟩
     |ret=>exact⟨K1,fun k' hk'=>by simp only[fx];rw[h1 k' hk'];exact h⟩
  obtain⟨K,hK⟩:=key k h;exact⟨K,fun k' hk'=>qM (fun _ _ h=>h) (Nat.le_max_left _ _) (hK k' hk')⟩
 |exit id=>intro s r h;exact⟨0,fun _ _=>h⟩
 |ret=>intro s r h;exact⟨0,fun _ _=>h⟩
 |shut ids a iha=>intro s r h;simp only[cz] at h ⊢;exact iha h
end
theorem au{M:Nat→Option Body}{f:Nat}{b:Fn}(hM:M f=some (.code b)){as:List V}{lent:List (Nat×Ob)}{r:V×List (Nat×Ob)}(h:∃k,ba (run M) k b as lent=some r):run M f as lent=some r:=by
 obtain⟨k,h⟩:=h;unfold ba at h;split at h
 ·rename_i hn;cases hx:cz (run M) k b.body {t:=(List.range b.np).zip as,o:=lent,n:=2000000} with
  |none=>rw[hx] at h;cases h
  |some x=>
   rw[hx] at h;obtain⟨K,hK⟩:=Iw _ hx;refine v_.2 ⟨max k K+1, ?_⟩;simp only[yh,hM];unfold ba;rw[if_pos hn];have:=hK (max k K) (Nat.le_max_right _ _);rw[show max k (max k K)=max k K from by omega] at this;rw[this];exact h
 ·cases h
theorem zm{M:Nat→Option Body}{f:Nat}{g:List V→List (Nat×Ob)→Option (V×List (Nat×Ob))}(hM:M f=some (.ext g)){as:List V}{lent:List (Nat×Ob)}{r:V×List (Nat×Ob)}(h:g as lent=some r):run M f as lent=some r:=
 v_.2 ⟨1,by simp only[yh,hM];exact h⟩
end Mx
namespace Mx
open Go
attribute [simp] kI kB lr Q Qn Qg Qm Qf Ql QL Qs Qb Qi Qx Qa Qv
attribute [simp] cz steps step act wanted oH look jL vt qa pn w7 qb vV get place lenOf bin wb nA B8 V.cells h_ setAt wO tz rowsOf vf max2 min2 KR yW Fm Hf V.fin t_ so zt args qd om uF V.im im FR sV V.wr Bq Dw wr cl gh back pQ q0 rZ oP V.flat qj lg q9 nF T.scalar uz
theorem FF{α:Type}(l:List (Nat×α)):keep [] l=[]:=rfl
theorem uH{α:Type}(k:Nat)(ks:List Nat)(l:List (Nat×α)):keep (k::ks) l=match get l k with|some v=>(k,v)::keep ks l|none=>keep ks l:=by
 cases h:get l k<;>simp[keep,h]
attribute [simp] FF uH
abbrev I(n:Int):T:= .int .i64 n
abbrev U8(n:Int):T:= .int .u8 n
abbrev bs(l:List UInt8):ByteArray:=⟨l.toArray⟩
abbrev S(l:List UInt8):T:= .str (bs l)
theorem zU(l:List UInt8):(bs l).size=l.length:=by simp[ByteArray.size]
theorem d_(l:List UInt8)(i:Nat)(h:i<(bs l).size):(bs l)[i]=l[i]'(by simpa [zU] using h):=by
 simp[bs,ByteArray.getElem_eq_getElem_data]
theorem Ef(a b:List UInt8):bs a++bs b=bs (a++b):=by
 apply ByteArray.ext;simp[bs,ByteArray.data_append]
theorem Co(a:List UInt8)(i j:Nat):(bs a).extract i j=bs ((a.take j).drop i):=by
 apply ByteArray.ext;simp[bs,ByteArray.data_extract,List.drop_take]
theorem ot(a:List UInt8):(bs a).toList=a:=by
 rw[ByteArray.toList_eq]
attribute [simp] zU Ef Co ot
theorem wj(a b:List UInt8):(a==b)=decide (a=b):=by rw[Bool.eq_iff_iff];simp
theorem bT(a b:List UInt8)(h:a.length+b.length≤4611686018427387904):kM .add (bs a) (bs b)=some (S (a++b)):=by
 simp[kM,h]
theorem zf(a b:List UInt8):kM .eql (bs a) (bs b)=some (.bool (decide (a=b))):=by simp only[kM,ot,wj]
theorem CL(a b:List UInt8):kM .neq (bs a) (bs b)=some (.bool !decide (a=b)):=by simp only[kM,ot,wj]
theorem Hl(a b:List UInt8):kM .lss (bs a) (bs b)=some (.bool (jH a b)):=by simp[kM]
theorem Hm(a b:List UInt8):kM .leq (bs a) (bs b)=some (.bool (jH a b||decide (a=b))):=by simp only[kM,ot,wj]
theorem Hn(a b:List UInt8):kM .gtr (bs a) (bs b)=some (.bool !(jH a b||decide (a=b))):=by simp only[kM,ot,wj]
theorem Ho(a b:List UInt8):kM .geq (bs a) (bs b)=some (.bool !(jH a b)):=by simp[kM]
attribute [simp] bT zf CL Hl Hm Hn Ho
theorem Az(s:ByteArray):∃l,s=bs l:=⟨s.data.toList,by simp[bs]⟩
theorem wrap_i64{x:Int}(h: -9223372036854775808≤x)(h':x≤9223372036854775807):IntKind.i64.wrap x=x:=by
 unfold IntKind.wrap;simp[IntKind.bits,IntKind.signed]<;>omega
theorem cA{i:Nat}(h:i<9223372036854775807):IntKind.i64.wrap ((i:Int)+1)=(i:Int)+1:=wrap_i64 (by omega) (by omega)
theorem BD{α:Type}(l:List α)(i:Nat)(hi:i<l.length):(l.take (i+1)).drop i=[l[i]]:=by
 rw[List.take_succ_eq_append_getElem hi,List.drop_append_of_le_length (by simp;omega),dY (by simp;omega)];rfl
def rY(l:List UInt8):List (List T):=l.map fun b=>[U8 b.toNat]
theorem Gp(l:List UInt8):(rY l).length=l.length:=by simp[rY]
theorem A4(a b:List UInt8):rY a++rY b=rY (a++b):=by simp[rY]
theorem Eg(a:List UInt8)(n:Nat):(rY a).take n=rY (a.take n):=by simp[rY]
theorem Cq(l:List UInt8):mZ (rY l)=some l:=by
 induction l with
 |nil=>rfl
 |cons b l ih=>
  unfold mZ rY at ih ⊢;simp only[bu,h_,ih];simp
theorem Cp(l:List UInt8):(rY l).isEmpty=l.isEmpty:=by cases l<;>rfl
attribute [simp] Gp A4 Eg Cq Cp
theorem DW{σ β ρ:Type}{f:St→Option (Out×St)}(S:σ→β→St)(Inv:σ→Prop)(μ:σ→Nat)(res:σ→ρ)(Post:ρ→Out×St→Prop)
  (h:∀s x,Inv s→(∃s' y,f (S s x)=some (.normal,S s' y)∧Inv s'∧μ s'<μ s∧res s'=res s)∨(∃r,f (S s x)=some r∧r.1≠.normal∧Post (res s) r)):
  ∀m s x,Inv s→μ s<m→∃r,fx f m (S s x)=some r∧Post (res s) r:=by
 intro m
 induction m with
 |zero=>intro s x _ h;omega
 |succ m ih=>
  intro s x hi hm;rcases h s x hi with⟨s',y,h1,h2,h3,h4⟩|⟨r,h1,h2,h3⟩
  ·obtain⟨r,k1,k2⟩:=ih s' y h2 (by omega);exact⟨r,by simp only[fx,h1];exact k1,by rw[←h4];exact k2⟩
  ·refine⟨r, ?_,h3⟩;simp only[fx,h1];obtain⟨out,s'⟩:=r;cases out with
   |normal=>exact(h2 rfl).elim
   |exit id=>rfl
   |ret=>rfl
theorem iN{σ β ρ γ:Type}{f:St→Option (Out×St)}(S:σ→β→St)(Inv:σ→Prop)(μ:σ→Nat)(res:σ→ρ)(fin:ρ→γ→Out×St)
  (h:∀s x,Inv s→(∃s' y,f (S s x)=some (.normal,S s' y)∧Inv s'∧μ s'<μ s∧res s'=res s)∨(∃z,f (S s x)=some (fin (res s) z)∧(fin (res s) z).1≠.normal)):
  ∀m s,Inv s→μ s<m→∃g:β→γ,∀x,fx f m (S s x)=some (fin (res s) (g x)):=by
 intro m s hi hm;have:=fun x=>DW S Inv μ res (fun q r=>∃z,r=fin q z)
  (fun s x hi=>by
   rcases h s x hi with h1|⟨z,h1,h2⟩
   ·exact .inl h1
   ·exact .inr ⟨_,h1,h2,z,rfl⟩) m s x hi hm
 refine⟨fun x=>(this x).choose_spec.2.choose,fun x=> ?_⟩;have h1:=(this x).choose_spec;rw[h1.1,←h1.2.choose_spec]
def MO.pure:MO→Bool
 | .mv _=>true
 | .pick .. =>true
 | .load .. =>true
 | .bin .. =>true
 | .beq .. =>true
 | .eqs .. =>true
 | .not _=>true
 | .neg _=>true
 | .ry .. =>true
 | .bN .. =>true
 | .kG .. =>true
 | .idx .. =>true
 | .Ir .. =>true
 | .ext .. =>true
 | .len _=>true
 | .ky _=>true
 | .oB .. =>true
 | .max .. =>true
 | .min .. =>true
 | .call _ _ l h=>l.isEmpty&&h.isEmpty
 |_=>false
def od(cf:cI)(n d:Nat)(t:List (Nat×V))(o:List (Nat×Ob))(op:MO):G1:=match op with
 | .call f as l h=>act cf n d t (keep (lL t o (.call f as l h)) o) (.call f as l h)
 |op=>act cf n d t o op
def qA(cf:cI)(n:Nat):Nat→List og→List (Nat×V)→List (Nat×Ob)→Option (List (Nat×V)×List (Nat×Ob))
 |_,[],t,o=>some (t,o)
 |i,m::ms,t,o=>match wanted t m.guard with
  |some true=>(match od cf (n+16*i) (m.dst.getD 0) t o m.op with|some r=>qA cf n (i+1) ms (oH t m.dst r.1) o|none=>none)
  |some false=>qA cf n (i+1) ms (oH t m.dst .undef) o
  |none=>none
theorem y9{n:Nat}{l:List (Nat×Nat×Nat)}{q:Nat}{t:T}{r:T×List (Nat×Ob)}(h:oP n l [] q t=some r):r.2=[]:=by
 cases t<;>simp[oP,get] at h<;>try (subst h;rfl)
 split at h<;>simp at h
 subst h;rfl
theorem y_{n:Nat}{l:List (Nat×Nat×Nat)}:∀{ts:List T} {q:Nat} {r:List T×List (Nat×Ob)},rZ n l [] q ts=some r→r.2=[]
 |[],_,r,h=>by simp[rZ] at h;subst h;rfl
 |t::ts,q,r,h=>by
  simp only[rZ] at h;split at h<;>try (cases h)
  rename_i a b hb;split at h<;>cases h
  rename_i a' b' hb';have h1:=y9 hb;have h2:=y_ hb';simp only at h1 h2;subst h1 h2;rfl
theorem y8{n:Nat}{l:List (Nat×Nat×Nat)}{q:Nat}{v:V}{r:V×List (Nat×Ob)×Nat}(h:pQ n l [] q v=some r):r.2.1=[]:=by
 cases v<;>simp only[pQ] at h<;>try (cases h)
 ·split at h<;>cases h
  rename_i a b hb;exact y9 hb
 ·split at h<;>cases h
  rename_i a b hb;exact y_ hb
theorem xT{n:Nat}{l:List (Nat×Nat×Nat)}:∀{vs:List V} {q:Nat} {r:List V×List (Nat×Ob)},q0 n l [] q vs=some r→r.2=[]
 |[],_,r,h=>by simp[q0] at h;subst h;rfl
 |v::vs,q,r,h=>by
  simp only[q0] at h;split at h<;>try (cases h)
  rename_i a b c hb;split at h<;>cases h
  rename_i a' b' hb';have h1:=y8 hb;have h2:=xT hb';simp only at h1 h2;subst h1 h2;rfl
theorem Gq{n:Nat}{l:List (Nat×Nat×Nat)}{v:V}{r:V×List (Nat×Ob)}(h:back n l [] v=some r):r.2=[]:=by
 unfold back at h;split at h<;>simp only[al] at h<;>obtain⟨a,h1,rfl⟩:=h
 ·exact xT h1
 ·exact y8 h1
theorem Bb{o:List (Nat×Ob)}:∀{vs:List V} {p:Nat} {r:List V×List (Nat×Nat×Ob)×List Nat},args o [] p vs=some r→r.2.1=[]
 |[],_,r,h=>by simp[args] at h;subst h;rfl
 |v::vs,p,r,h=>by
  simp only[args] at h;split at h<;>try (cases h)
  rename_i a b c hb;simp only[List.not_mem_nil,if_false,uF,List.any_nil,aB] at h;split at h<;>cases h
  exact Bb (r:=(a,b,c)) hb
theorem Cg{cf:cI}{n:Nat}{o:List (Nat×Ob)}{f:Nat}{vals:List V}{r:V×List (Nat×Ob)}(h:gh cf n o f vals [] []=some r):r.2=[]:=by
 unfold gh at h;split at h<;>try (cases h)
 rename_i as ls b ha;have:=Bb ha;simp only at this;subst this;split at h<;>try (cases h)
 split at h<;>try (cases h)
 rename_i res after _;split at h<;>try (cases h)
 rename_i gf v ups' h1 h2;simp[lg] at h1;have:=Gq h2;simp only at this;subst this h1;split at h<;>cases h
 rfl
theorem GA{cf:cI}{n d:Nat}{t:List (Nat×V)}{o:List (Nat×Ob)}{op:MO}(hp:op.pure=true){r:V×List (Nat×Ob)}(h:act cf n d t o op=some r):r.2=[]:=by
 cases op<;>simp only[MO.pure] at hp<;>simp only[act] at h<;>try (cases hp;done)
 all_goals first
  |(simp only[al] at h;obtain⟨a,_,rfl⟩:=h;rfl)
  |(repeat' split at h)<;>first|(cases h;done)|(cases h;rfl)|(simp only[al] at h;obtain⟨a,_,rfl⟩:=h;rfl)|(simp only[List.isEmpty_iff,aj] at hp;obtain⟨rfl,rfl⟩:=hp;exact Cg h)
theorem vA{α:Type}(ks:List Nat)(l:List (Nat×α)){x:Nat}(h:x∈ks):get (keep ks l) x=get l x:=by
 induction ks with
 |nil=>simp at h
 |cons k ks ih=>
  rw[uH];by_cases e:x=k
  ·subst e;cases hg:get l x with
   |none=>
    simp only[];by_cases hm:x∈ks
    ·rw[ih hm,hg]
    ·cases hq:get (keep ks l) x with
     |none=>rfl
     |some v=>exact(hm (tY ks l hq)).elim
   |some v=>simp[get]
  ·have hm:x∈ks:=by simpa [e] using h
   cases hg:get l k with
   |none=>exact ih hm
   |some v=>simp only[get,e,if_false];exact ih hm
theorem BY{o:List (Nat×Ob)}{ks:List Nat}{a:T}(h:∀x∈qh a,x∈ks):place (keep ks o) a=place o a:=by
 cases a<;>simp only[place]
 rename_i id ct i j;rw[vA ks o (h id (by simp[qh]))]
theorem DC{t:List (Nat×V)}{o:List (Nat×Ob)}{op:MO}{n:Nat}{a:T}(h:n∈op.Cd)(hg:get t n=some (.c a)):∀x∈qh a,x∈lL t o op:=by
 intro x hx;simp only[lL,jl];exact⟨n,h,by rw[hg];simp[oY,hx]⟩
def O.plain:O→Bool
 | .k v=>(qh v).isEmpty
 |_=>true
def MO.zr:MO→Bool
 | .load _ _ a=>a.plain
 | .kG _ x _=>x.plain
 |_=>true
theorem yI{t:List (Nat×V)}{o:List (Nat×Ob)}{op:MO}{x:O}{a:T}(hp:x.plain=true)(h:jL t x=some a)(hm:∀n,x= .t n→n∈op.Cd):∀y∈qh a,y∈lL t o op:=by
 cases x with
 |t n=>
  simp only[jL,look] at h;split at h<;>cases h
  rename_i hg;exact DC (hm n rfl) hg
 |k v=>
  simp only[jL,look] at h;cases h;simp only[O.plain,List.isEmpty_iff] at hp;intro y hy;rw[hp] at hy;cases hy
 |fn f=>
  simp only[jL,look] at h;cases h;intro y hy;simp[qh] at hy
theorem GH{cf:cI}{n d:Nat}{t:List (Nat×V)}{o:List (Nat×Ob)}{op:MO}(hp:op.pure=true)(hp2:op.zr=true):
  act cf n d t (keep (lL t o op) o) op=od cf n d t o op:=by
 cases op<;>simp only[MO.pure] at hp<;>simp only[od]<;>try (cases hp;done)
 all_goals try (simp only[act];done)
 case load agg k a=>
  simp only[act];cases ha:jL t a with
  |none=>rfl
  |some v=>
   simp only[];rw[BY (yI hp2 ha (fun m e=>by subst e;simp[MO.Cd,MO.tmps,O.tmps]))]
 case kG sz x ix=>
  simp only[act];cases ha:jL t x with
  |none=>rfl
  |some v=>
   cases v with
   |row id ct off len=>
    cases hi:pn t ix with
    |none=>rfl
    |some i=>
     simp only[];rw[vA _ o (yI (o:=o) (op:= .kG sz x ix) hp2 ha (fun m e=>by subst e;simp[MO.Cd,MO.tmps,O.tmps]) id (by simp[qh]))]
   |sl own s rows=>cases pn t ix<;>rfl
   |_=>cases pn t ix<;>rfl
def p8:List og→Bool
 |[]=>true
 |m::ms=>m.op.pure&&m.op.zr&&p8 ms
theorem rF{cf:cI}{n:Nat}:∀(ms:List og) (as:List (List Nat)) (i:Nat) (t:List (Nat×V)) (o:List (Nat×Ob)) (acc:List (Nat×oK)),p8 ms=true→ms.length≤as.length→(∀p∈acc,p.2.gf=[])→
  kf cf n i ms as t o acc=qA cf n i ms t o
 |[],as,i,t,o,acc,_,_,_=>by simp[kf,qA]
 |m::ms,[],i,t,o,acc,_,h,_=>by simp at h
 |m::ms,a::as,i,t,o,acc,hp,hl,ha=>by
  simp only[p8,aj] at hp;have hk:=GH (cf:=cf) (n:=n+16*i) (d:=m.dst.getD 0) (t:=t) (o:=o) hp.1.1 hp.1.2;simp only[kf,qA,oe];cases hw:wanted t m.guard with
  |none=>rfl
  |some b=>
   have hall:∀e:oK,e.gf=[]→acc.all (fun x=>a.contains x.1||e.apart x.2)=true:=by
    intro e he;simp only[fL];intro p hpm;simp[oK.apart,oK.W,he,ha p hpm]
   cases b with
   |false=>
    simp only[];rw[if_pos (hall _ rfl),List.nil_append];exact rF ms as (i+1) _ o _ hp.2 (by simp at hl;omega) (fun p h=>by
     rcases List.mem_cons.1 h with rfl|h
     ·rfl
     ·exact ha p h)
   |true=>
    simp only[hk];cases hr:od cf (n+16*i) (m.dst.getD 0) t o m.op with
    |none=>rfl
    |some r=>
     have hu:r.2=[]:=by
      rw[←hk] at hr;exact GA hp.1.1 hr
     simp only[iF];rw[if_pos (hall _ hu),hu,List.nil_append];exact rF ms as (i+1) _ o _ hp.2 (by simp at hl;omega) (fun p h=>by
      rcases List.mem_cons.1 h with rfl|h
      ·first|exact hu|rfl
      ·exact ha p h)
theorem DP{cf:cI}{n:Nat}{ms:List og}{as:List (List Nat)}{t:List (Nat×V)}{o:List (Nat×Ob)}(h1:p8 ms=true)(h2:ms.length≤as.length):kf cf n 0 ms as t o []=qA cf n 0 ms t o:=
 rF ms as 0 t o [] h1 h2 (by simp)
def KA:List og→List (List Nat)→Bool
 |[],_=>true
 |_::_,[]=>false
 |m::ms,_::as=>m.op.pure&&(m.op.zr&&KA ms as)
theorem wW:∀(ms:List og) (as:List (List Nat)),KA ms as=true→p8 ms=true∧ms.length≤as.length
 |[],as,_=>⟨rfl,by simp⟩
 |m::ms,[],h=>by simp[KA] at h
 |m::ms,a::as,h=>by
  simp only[KA,aj] at h;have ih:=wW ms as h.2.2;exact⟨by simp[p8,h.1,h.2.1,ih.1],by simp;exact ih.2⟩
def mL(cf:cI)(n i:Nat)(m:og)(t:List (Nat×V))(o:List (Nat×Ob)):Option (List (Nat×V)):=match wanted t m.guard with
 |some true=>(od cf (n+16*i) (m.dst.getD 0) t o m.op).map fun r=>oH t m.dst r.1
 |some false=>some (oH t m.dst .undef)
 |none=>none
def uw(cf:cI)(n:Nat):Nat→List og→List (Nat×V)→List (Nat×Ob)→Option (List (Nat×V)×List (Nat×Ob))
 |_,[],t,o=>some (t,o)
 |i,m::ms,t,o=>match mL cf n i m t o with|some t'=>uw cf n (i+1) ms t' o|none=>none
theorem wE{cf:cI}{n:Nat}:∀(ms:List og) (i:Nat) (t:List (Nat×V)) (o:List (Nat×Ob)),qA cf n i ms t o=uw cf n i ms t o
 |[],i,t,o=>by simp only[qA,uw]
 |m::ms,i,t,o=>by
  simp only[qA,uw,mL];cases hw:wanted t m.guard with
  |none=>rfl
  |some b=>
   cases b with
   |false=>exact wE ms _ _ _
   |true=>
    cases hr:od cf (n+16*i) (m.dst.getD 0) t o m.op with
    |none=>rfl
    |some r=>simp only[iF];exact wE ms _ _ _
theorem Hw{cf:cI}{n:Nat}{ms:List og}{as:List (List Nat)}{t:List (Nat×V)}{o:List (Nat×Ob)}(h:KA ms as=true):kf cf n 0 ms as t o []=uw cf n 0 ms t o:=by
 rw[←wE];exact DP (wW ms as h).1 (wW ms as h).2
def Hb(acc:List (Nat×oK)):List (Nat×Nat):=acc.flatMap fun x=>x.2.W.map fun y=>(x.1,y)
def Jv(acc:List (Nat×oK)):List (Nat×List Nat):=acc.map fun x=>(x.1,x.2.T)
def LZ(a:List Nat)(T:List Nat)(gf:List (Nat×Ob))(ws:List (Nat×Nat))(ts:List (Nat×List Nat)):Bool:=
 ws.all (fun w=> !T.contains w.2||a.contains w.1)&&(gf.all fun u=>ts.all (fun x=> !x.2.contains u.1||a.contains x.1)&&ws.all (fun w=> !(u.1==w.2)||a.contains w.1))
def s8(cf:cI)(n:Nat):Nat→List og→List (List Nat)→List (Nat×V)→List (Nat×Ob)→List (Nat×Nat)→List (Nat×List Nat)→Option (List (Nat×V)×List (Nat×Ob))
 |_,[],_,t,o,_,_=>some (t,o)
 |i,m::ms,a::as,t,o,ws,ts=>
  match oe cf n i m t o with
  |some e=>if LZ a e.T e.gf ws ts then s8 cf n (i+1) ms as (oH t e.dst e.v) (e.gf++o) (e.gf.map (fun u=>(i,u.1))++ws) ((i,e.T)::ts) else none
  |none=>none
 |_,_::_,[],_,_,_,_=>none
theorem JR(a:List Nat)(e:oK)(acc:List (Nat×oK)):acc.all (fun x=>a.contains x.1||e.apart x.2)=LZ a e.T e.gf (Hb acc) (Jv acc):=by
 rw[Bool.eq_iff_iff];simp only[LZ,oK.apart,Hb,Jv,oK.W,fL,Bool.or_eq_true,aj,Bool.not_eq_true',jl,ox,beq_eq_false_iff_ne];constructor
 ·intro h;refine⟨?_,fun u hu=>⟨?_, ?_⟩⟩
  ·rintro w ⟨x,hx,y,⟨u,hu,rfl⟩,rfl⟩;rcases h x hx with h1|h1
   ·exact .inr h1
   ·exact .inl (h1.2 u.1 ⟨u,hu,rfl⟩)
  ·rintro y ⟨x,hx,rfl⟩;rcases h x hx with h1|h1
   ·exact .inr h1
   ·exact .inl (h1.1 u.1 ⟨u,hu,rfl⟩).1
  ·rintro w ⟨x,hx,y,⟨u',hu',rfl⟩,rfl⟩;rcases h x hx with h1|h1
   ·exact .inr h1
   ·left;have h2:=(h1.1 u.1 ⟨u,hu,rfl⟩).2;rintro e';have h3:List.contains (List.map (fun x=>x.fst) x.2.gf) u.1=true:=by
     rw[List.contains_iff_mem,ox];exact⟨u',hu',e'.symm⟩
    rw[h3] at h2;cases h2
 ·rintro ⟨h1,h2⟩ x hx;by_cases ha:a.contains x.1=true
  ·exact .inl ha
  ·right;refine⟨?_, ?_⟩
   ·rintro y ⟨u,hu,rfl⟩;refine⟨?_, ?_⟩
    ·rcases (h2 u hu).1 (x.1,x.2.T) ⟨x,hx,rfl⟩ with h3|h3
     ·exact h3
     ·exact(ha h3).elim
    ·cases hc:List.contains (List.map (fun x=>x.fst) x.2.gf) u.1 with
     |false=>rfl
     |true=>
      rw[List.contains_iff_mem,ox] at hc;obtain⟨u',hu',e'⟩:=hc;rcases (h2 u hu).2 (x.1,u'.1) ⟨x,hx,u'.1,⟨u',hu',rfl⟩,rfl⟩ with h3|h3
      ·exact(h3 e'.symm).elim
      ·exact(ha h3).elim
   ·rintro y ⟨u,hu,rfl⟩;rcases h1 (x.1,u.1) ⟨x,hx,u.1,⟨u,hu,rfl⟩,rfl⟩ with h3|h3
    ·exact h3
    ·exact(ha h3).elim
theorem Ac{cf:cI}{n:Nat}:∀(ms:List og) (as:List (List Nat)) (i:Nat) (t:List (Nat×V)) (o:List (Nat×Ob)) (acc:List (Nat×oK)),
  kf cf n i ms as t o acc=s8 cf n i ms as t o (Hb acc) (Jv acc)
 |[],as,i,t,o,acc=>by simp only[kf,s8]
 |m::ms,[],i,t,o,acc=>by simp only[kf,s8]
 |m::ms,a::as,i,t,o,acc=>by
  simp only[kf,s8];cases he:oe cf n i m t o with
  |none=>rfl
  |some e=>
   simp only[JR a e acc];split
   ·rw[Ac ms as (i+1)];congr 1;simp[Hb,oK.W]
   ·rfl
theorem JK{cf:cI}{n:Nat}{ms:List og}{as:List (List Nat)}{t:List (Nat×V)}{o:List (Nat×Ob)}:kf cf n 0 ms as t o []=s8 cf n 0 ms as t o [] []:=Ac ms as 0 t o []
section
variable {cf:cI} {n d:Nat} {t:List (Nat×V)} {o:List (Nat×Ob)}
theorem Ey{f:Nat}{as:List O}{l:List Nat}{h:List (Nat×Nat)}:od cf n d t o (.call f as l h)=act cf n d t (keep (lL t o (.call f as l h)) o) (.call f as l h):=rfl
theorem I9(x:O):od cf n d t o (.mv x)=act cf n d t o (.mv x):=rfl
theorem Ew(c a b:O):od cf n d t o (.pick c a b)=act cf n d t o (.pick c a b):=rfl
theorem Ex(agg:Bool)(k:Nat)(a:O):od cf n d t o (.load agg k a)=act cf n d t o (.load agg k a):=rfl
theorem GW(neg:Bool)(x y:O):od cf n d t o (.beq neg x y)=act cf n d t o (.beq neg x y):=rfl
theorem GV(op:BinOp)(x y:O):od cf n d t o (.bin op x y)=act cf n d t o (.bin op x y):=rfl
theorem GU(neg:Bool)(ks:List Kc)(x y:O):od cf n d t o (.eqs neg ks x y)=act cf n d t o (.eqs neg ks x y):=rfl
theorem GK(x:O):od cf n d t o (.not x)=act cf n d t o (.not x):=rfl
theorem GL(x:O):od cf n d t o (.neg x)=act cf n d t o (.neg x):=rfl
theorem GQ(k:IntKind)(x:O):od cf n d t o (.ry k x)=act cf n d t o (.ry k x):=rfl
theorem Eu(x:O)(lo hi:Option O):od cf n d t o (.oB x lo hi)=act cf n d t o (.oB x lo hi):=rfl
theorem CG(off:Nat)(a:O):od cf n d t o (.bN off a)=act cf n d t o (.bN off a):=rfl
theorem CF(sz:Nat)(x ix:O):od cf n d t o (.kG sz x ix)=act cf n d t o (.kG sz x ix):=rfl
theorem GP(x ix:O):od cf n d t o (.idx x ix)=act cf n d t o (.idx x ix):=rfl
theorem GR(agg:Bool)(off k:Nat)(x:O):od cf n d t o (.Ir agg off k x)=act cf n d t o (.Ir agg off k x):=rfl
theorem GS(i:Nat)(x:O):od cf n d t o (.ext i x)=act cf n d t o (.ext i x):=rfl
theorem GO(x:O):od cf n d t o (.len x)=act cf n d t o (.len x):=rfl
theorem Ev(x:O):od cf n d t o (.ky x)=act cf n d t o (.ky x):=rfl
theorem GN(x y:O):od cf n d t o (.max x y)=act cf n d t o (.max x y):=rfl
theorem GM(x y:O):od cf n d t o (.min x y)=act cf n d t o (.min x y):=rfl
end
attribute [simp high] Hw
attribute [simp low] JK
attribute [simp] Ey I9 Ew Ex GW GV GU GK GL GQ Eu CG CF GP GR GS GO Ev GN GM
attribute [simp] mL uw s8 LZ KA MO.pure MO.zr O.plain oe lL MO.Cd MO.tmps O.tmps oY qh pv oK.apart oK.W
end Mx
namespace Mx
open Go
def fN.l0:C:= .seq (.seq (.ai [Qm 11 5,Qm 12 0,Q 13 (.len (.t 12)),Q 14 (.bin .lss (.t 11) (.t 13))] [0,1,5,14] [])
 (.cond (.t 14) (.skip) (.exit 0)))
 (.seq (.block 1 (.seq (.gV [Qm 17 0,Qm 18 5,Qa 19 1 17 18,Ql 20 19,Qm 21 1,Qm 22 5,Qa 23 1 21 22,Ql 24 23,Q 25 (.bin .neq (.t 20) (.t 24))] [[],[],[0,1],[0,1,2],[],[],[4,5],[4,5,6],[0,1,2,3,4,5,6,7]] [0,1,5,25] [])
 (.cond (.t 25) (.seq (.ai [Qb 4 false] [4] [])
 (.ret)) (.skip))))
 (.ai [Qm 15 5,Q 16 (.bin .add (.t 15) (kI 1)),Qm 5 16] [0,1,5] []))
def fN.b:C:= .seq (.ai [Qb 4 false] [0,1] [])
 (.seq (.seq (.ai [Qm 6 0,Q 7 (.len (.t 6)),Qm 8 1,Q 9 (.len (.t 8)),Q 10 (.bin .neq (.t 7) (.t 9))] [0,1,10] [])
 (.cond (.t 10) (.seq (.ai [Qb 4 false] [4] [])
 (.ret)) (.skip)))
 (.seq (.seq (.ai [Qi 5 0] [0,1,5] [])
 (.block 0 (.loop fN.l0)))
 (.seq (.ai [Qb 4 true] [4] [])
 (.ret))))
def fN.m:Fn:={np:=2,body:=fN.b,res:=[.tmp 4]}
def fN.k(M:Nat→Option Body):Prop:=M 45=some (.code fN.m)
def gP.b:C:= .seq (.ai [Qi 4 0] [0,1] [])
 (.seq (.ai [Qm 5 1,Qm 6 0,Q 7 (.len (.t 6)),Q 8 (.bin .sub (.t 5) (.t 7)),Qm 1 8] [1] [])
 (.seq (.seq (.ai [Qm 9 1,Q 10 (.bin .lss (.t 9) (kI 0))] [1,10] [])
 (.cond (.t 10) (.seq (.ai [Qi 4 (-1)] [4] [])
 (.ret)) (.skip)))
 (.seq (.ai [Qm 11 1,Qm 4 11] [4] [])
 (.ret))))
def gP.m:Fn:={np:=2,body:=gP.b,res:=[.tmp 4]}
def gP.k(M:Nat→Option Body):Prop:=M 108=some (.code gP.m)
def i_.l0:C:= .seq (.seq (.ai [Qm 8 4,Qm 9 0,Q 10 (.len (.t 9)),Q 11 (.bin .lss (.t 8) (.t 10))] [0,3,4,11] [7])
 (.cond (.t 11) (.skip) (.exit 0)))
 (.seq (.block 1 (.ai [Qm 14 3,Qm 15 4,Qm 16 0,Qm 17 4,Qa 18 1 16 17,Ql 19 18,Qa 20 1 14 15,Qs 1 20 19] [0,3,4] [7]))
 (.ai [Qm 12 4,Q 13 (.bin .add (.t 12) (kI 1)),Qm 4 13] [0,3,4] [7]))
def i_.b:C:= .seq (.ai [Q 2 (.nil 1)] [0] [])
 (.seq (.ai [Qm 5 0,Q 6 (.len (.t 5)),Q 7 (.EE 1 8 [.int .i64 0] (.t 6)),Qm 3 7] [0,3] [7])
 (.seq (.seq (.ai [Qi 4 0] [0,3,4] [7])
 (.block 0 (.loop i_.l0)))
 (.seq (.ai [Qm 21 3,Qm 2 21] [2] [2,7])
 (.ret))))
def i_.m:Fn:={np:=1,body:=i_.b,res:=[.tmp 2]}
def i_.k(M:Nat→Option Body):Prop:=M 42=some (.code i_.m)
def gW.b:C:= .seq (.ai [Qv 1 0,Q 2 (.alloc [.int .i64 0,.int .i64 0])] [1,2] [1,2])
 (.seq (.ai [Q 3 (.alloc [.int .i64 0,.int .i64 0])] [1,2,3] [1,2,3])
 (.seq (.ai [Qf 4 0 1,Ql 5 4,Qf 6 0 3,Qs 1 6 5] [1,2,3] [1,2,3])
 (.seq (.ai [Qf 7 1 1,Ql 8 7,Qf 9 1 3,Qs 1 9 8] [2,3] [2,3])
 (.seq (.ai [QL 10 2 3,Qs 2 2 10] [2] [2])
 (.ret)))))
def gW.m:Fn:={np:=1,body:=gW.b,res:=[.cell 2 true 2]}
def gW.k(M:Nat→Option Body):Prop:=M 109=some (.code gW.m)
def jZ.b:C:= .seq (.ai [Qv 1 0,Q 2 (.alloc [.int .i64 0,.int .i64 0,.int .i64 0])] [1,2] [1,2])
 (.seq (.ai [Q 3 (.alloc [.int .i64 0,.int .i64 0,.int .i64 0])] [1,2,3] [1,2,3])
 (.seq (.ai [Qf 4 0 1,Ql 5 4,Qf 6 0 3,Qs 1 6 5] [1,2,3] [1,2,3])
 (.seq (.ai [Qf 7 1 1,QL 8 2 7,Q 9 (.call 109 [.t 8] [] []),Qf 10 1 3,Qs 2 10 9] [2,3] [2,3])
 (.seq (.ai [QL 11 3 3,Qs 3 2 11] [2] [2])
 (.ret)))))
def jZ.m:Fn:={np:=1,body:=jZ.b,res:=[.cell 2 true 3]}
def jZ.k(M:Nat→Option Body):Prop:=M 288=some (.code jZ.m)∧gW.k M
def jM.l0:C:= .seq (.seq (.ai [Qm 8 4,Qm 9 0,Q 10 (.len (.t 9)),Q 11 (.bin .lss (.t 8) (.t 10))] [0,3,4,11] [7])
 (.cond (.t 11) (.skip) (.exit 0)))
 (.seq (.block 1 (.ai [Qm 14 3,Qm 15 4,Qm 16 0,Qm 17 4,Qa 18 3 16 17,QL 19 3 18,Q 20 (.call 288 [.t 19] [] []),Qa 21 3 14 15,Qs 3 21 20] [0,3,4] [7]))
 (.ai [Qm 12 4,Q 13 (.bin .add (.t 12) (kI 1)),Qm 4 13] [0,3,4] [7]))
def jM.b:C:= .seq (.ai [Q 2 (.nil 3)] [0] [])
 (.seq (.ai [Qm 5 0,Q 6 (.len (.t 5)),Q 7 (.EE 3 24 [.int .i64 0,.int .i64 0,.int .i64 0] (.t 6)),Qm 3 7] [0,3] [7])
 (.seq (.seq (.ai [Qi 4 0] [0,3,4] [7])
 (.block 0 (.loop jM.l0)))
 (.seq (.ai [Qm 22 3,Qm 2 22] [2] [2,7])
 (.ret))))
def jM.m:Fn:={np:=1,body:=jM.b,res:=[.tmp 2]}
def jM.k(M:Nat→Option Body):Prop:=M 251=some (.code jM.m)∧jZ.k M
def jx.b:C:= .seq (.ai [Qv 1 0,Q 2 (.alloc [.int .i64 0,.int .i64 0,.aL 3,.str ⟨#[]⟩])] [1,2] [1,2,11200])
 (.seq (.ai [Q 3 (.alloc [.int .i64 0,.int .i64 0,.aL 3,.str ⟨#[]⟩])] [1,2,3] [1,2,3,11200])
 (.seq (.ai [Qf 4 0 1,Ql 5 4,Qf 6 0 3,Qs 1 6 5] [1,2,3] [1,2,3,11200])
 (.seq (.ai [Qf 7 1 1,Ql 8 7,Qf 9 1 3,Qs 1 9 8] [1,2,3] [1,2,3,11200])
 (.seq (.ai [Qf 10 2 1,Ql 11 10,Q 12 (.call 251 [.t 11] [] [(0,11200)]),Qf 13 2 3,Qs 1 13 12] [1,2,3] [1,2,3,11200])
 (.seq (.ai [Qf 14 3 1,Ql 15 14,Qf 16 3 3,Qs 1 16 15] [2,3] [2,3,11200])
 (.seq (.ai [QL 17 4 3,Qs 4 2 17] [2] [2,11200])
 (.ret)))))))
def jx.m:Fn:={np:=1,body:=jx.b,res:=[.cell 2 true 4]}
def jx.k(M:Nat→Option Body):Prop:=M 209=some (.code jx.m)∧jM.k M
def jg.l0:C:= .seq (.seq (.ai [Qm 8 4,Qm 9 0,Q 10 (.len (.t 9)),Q 11 (.bin .lss (.t 8) (.t 10))] [0,3,4,11] [7])
 (.cond (.t 11) (.skip) (.exit 0)))
 (.seq (.block 1 (.ai [Qm 14 3,Qm 15 4,Qm 16 0,Qm 17 4,Qa 18 4 16 17,QL 19 4 18,Q 20 (.call 209 [.t 19] [] []),Qa 21 4 14 15,Qs 4 21 20] [0,3,4] [7]))
 (.ai [Qm 12 4,Q 13 (.bin .add (.t 12) (kI 1)),Qm 4 13] [0,3,4] [7]))
def jg.b:C:= .seq (.ai [Q 2 (.nil 4)] [0] [])
 (.seq (.ai [Qm 5 0,Q 6 (.len (.t 5)),Q 7 (.EE 4 56 [.int .i64 0,.int .i64 0,.aL 3,.str ⟨#[]⟩] (.t 6)),Qm 3 7] [0,3] [7])
 (.seq (.seq (.ai [Qi 4 0] [0,3,4] [7])
 (.block 0 (.loop jg.l0)))
 (.seq (.ai [Qm 22 3,Qm 2 22] [2] [2,7])
 (.ret))))
def jg.m:Fn:={np:=1,body:=jg.b,res:=[.tmp 2]}
def jg.k(M:Nat→Option Body):Prop:=M 110=some (.code jg.m)∧jx.k M
def j0.b:C:= .seq (.ai [Qv 1 0,Q 2 (.alloc [.int .i64 0,.str ⟨#[]⟩,.int .i64 0,.int .i64 0,.int .i64 0,.aL 4,.aL 1])] [1,2] [1,2,11900,12300])
 (.seq (.ai [Q 3 (.alloc [.int .i64 0,.str ⟨#[]⟩,.int .i64 0,.int .i64 0,.int .i64 0,.aL 4,.aL 1])] [1,2,3] [1,2,3,11900,12300])
 (.seq (.ai [Qf 4 0 1,Ql 5 4,Qf 6 0 3,Qs 1 6 5] [1,2,3] [1,2,3,11900,12300])
 (.seq (.ai [Qf 7 1 1,Ql 8 7,Qf 9 1 3,Qs 1 9 8] [1,2,3] [1,2,3,11900,12300])
 (.seq (.ai [Qf 10 2 1,QL 11 2 10,Q 12 (.call 109 [.t 11] [] []),Qf 13 2 3,Qs 2 13 12] [1,2,3] [1,2,3,11900,12300])
 (.seq (.ai [Qf 14 4 1,Ql 15 14,Qf 16 4 3,Qs 1 16 15] [1,2,3] [1,2,3,11900,12300])
 (.seq (.ai [Qf 17 5 1,Ql 18 17,Q 19 (.call 110 [.t 18] [] [(0,11900)]),Qf 20 5 3,Qs 1 20 19] [1,2,3] [1,2,3,11900,12300])
 (.seq (.ai [Qf 21 6 1,Ql 22 21,Q 23 (.call 42 [.t 22] [] [(0,12300)]),Qf 24 6 3,Qs 1 24 23] [2,3] [2,3,11900,12300])
 (.seq (.ai [QL 25 7 3,Qs 7 2 25] [2] [2,11900,12300])
 (.ret)))))))))
def j0.m:Fn:={np:=1,body:=j0.b,res:=[.cell 2 true 7]}
def j0.k(M:Nat→Option Body):Prop:=M 18=some (.code j0.m)∧i_.k M∧gW.k M∧jg.k M
def kE.b:C:= .seq (.ai [Qi 4 0] [0,1] [])
 (.seq (.ai [Qm 5 1,Qm 6 0,Q 7 (.len (.t 6)),Q 8 (.bin .sub (.t 5) (.t 7)),Qm 1 8] [1] [])
 (.seq (.seq (.ai [Qm 9 1,Q 10 (.bin .lss (.t 9) (kI 0))] [1,10] [])
 (.cond (.t 10) (.seq (.ai [Qi 4 (-1)] [4] [])
 (.ret)) (.skip)))
 (.seq (.ai [Qm 11 1,Qm 4 11] [4] [])
 (.ret))))
def kE.m:Fn:={np:=2,body:=kE.b,res:=[.tmp 4]}
def kE.k(M:Nat→Option Body):Prop:=M 250=some (.code kE.m)
def gM.b:C:= .seq (.ai [Qv 2 0,Qi 4 0] [1,2] [2])
 (.seq (.ai [Qf 5 2 2,Ql 6 5,Qm 7 1,Q 8 (.call 250 [.t 6,.t 7] [] []),Qm 1 8] [1,2] [2])
 (.seq (.seq (.ai [Qm 9 1,Q 10 (.bin .lss (.t 9) (kI 0))] [1,2,10] [2])
 (.cond (.t 10) (.seq (.ai [Qi 4 (-1)] [4] [])
 (.ret)) (.skip)))
 (.seq (.ai [Qm 11 1,Qf 12 3 2,Ql 13 12,Q 14 (.ky (.t 13)),Q 15 (.bin .sub (.t 11) (.t 14)),Qm 1 15] [1] [])
 (.seq (.seq (.ai [Qm 16 1,Q 17 (.bin .lss (.t 16) (kI 0))] [1,17] [])
 (.cond (.t 17) (.seq (.ai [Qi 4 (-1)] [4] [])
 (.ret)) (.skip)))
 (.seq (.ai [Qm 18 1,Qm 4 18] [4] [])
 (.ret))))))
def gM.m:Fn:={np:=2,body:=gM.b,res:=[.tmp 4]}
def gM.k(M:Nat→Option Body):Prop:=M 208=some (.code gM.m)∧kE.k M
def jh.l0:C:= .seq (.seq (.ai [Qm 12 5,Qm 13 0,Q 14 (.len (.t 13)),Q 15 (.bin .lss (.t 12) (.t 14))] [0,1,5,15] [])
 (.cond (.t 15) (.skip) (.exit 0)))
 (.seq (.block 1 (.seq (.ai [Qm 18 0,Qm 19 5,Qa 20 4 18 19,QL 21 4 20,Qm 22 1,Q 23 (.call 208 [.t 21,.t 22] [] []),Qm 1 23] [0,1,5] [])
 (.seq (.ai [Qm 24 1,Q 25 (.bin .lss (.t 24) (kI 0))] [0,1,5,25] [])
 (.cond (.t 25) (.seq (.ai [Qi 4 (-1)] [4] [])
 (.ret)) (.skip)))))
 (.ai [Qm 16 5,Q 17 (.bin .add (.t 16) (kI 1)),Qm 5 17] [0,1,5] []))
def jh.b:C:= .seq (.ai [Qi 4 0] [0,1] [])
 (.seq (.ai [Qm 6 1,Qm 7 0,Q 8 (.len (.t 7)),Q 9 (.bin .sub (.t 6) (.t 8)),Qm 1 9] [0,1] [])
 (.seq (.seq (.ai [Qm 10 1,Q 11 (.bin .lss (.t 10) (kI 0))] [0,1,11] [])
 (.cond (.t 11) (.seq (.ai [Qi 4 (-1)] [4] [])
 (.ret)) (.skip)))
 (.seq (.seq (.ai [Qi 5 0] [0,1,5] [])
 (.block 0 (.loop jh.l0)))
 (.seq (.ai [Qm 26 1,Qm 4 26] [4] [])
 (.ret)))))
def jh.m:Fn:={np:=2,body:=jh.b,res:=[.tmp 4]}
def jh.k(M:Nat→Option Body):Prop:=M 107=some (.code jh.m)∧gM.k M
def ie.b:C:= .seq (.ai [Qv 2 0,Qi 4 0] [1,2] [2])
 (.seq (.ai [Qm 5 1,Qf 6 1 2,Ql 7 6,Q 8 (.ky (.t 7)),Q 9 (.bin .sub (.t 5) (.t 8)),Qm 1 9] [1,2] [2])
 (.seq (.seq (.ai [Qm 10 1,Q 11 (.bin .lss (.t 10) (kI 0))] [1,2,11] [2])
 (.cond (.t 11) (.seq (.ai [Qi 4 (-1)] [4] [])
 (.ret)) (.skip)))
 (.seq (.ai [Qf 12 5 2,Ql 13 12,Qm 14 1,Q 15 (.call 107 [.t 13,.t 14] [] []),Qm 1 15] [1,2] [2])
 (.seq (.seq (.ai [Qm 16 1,Q 17 (.bin .lss (.t 16) (kI 0))] [1,2,17] [2])
 (.cond (.t 17) (.seq (.ai [Qi 4 (-1)] [4] [])
 (.ret)) (.skip)))
 (.seq (.ai [Qf 18 6 2,Ql 19 18,Qm 20 1,Q 21 (.call 108 [.t 19,.t 20] [] []),Qm 1 21] [1] [])
 (.seq (.seq (.ai [Qm 22 1,Q 23 (.bin .lss (.t 22) (kI 0))] [1,23] [])
 (.cond (.t 23) (.seq (.ai [Qi 4 (-1)] [4] [])
 (.ret)) (.skip)))
 (.seq (.ai [Qm 24 1,Qm 4 24] [4] [])
 (.ret))))))))
def ie.m:Fn:={np:=2,body:=ie.b,res:=[.tmp 4]}
def ie.k(M:Nat→Option Body):Prop:=M 17=some (.code ie.m)∧jh.k M∧gP.k M
def gX.b:C:= .seq (.ai [Qv 2 0,Qv 3 1,Qb 4 false] [2,3] [2,3])
 (.seq (.seq (.ai [Qf 5 0 2,Ql 6 5,Qf 7 0 3,Ql 8 7,Q 9 (.bin .neq (.t 6) (.t 8))] [2,3,9] [2,3])
 (.cond (.t 9) (.seq (.ai [Qb 4 false] [4] [])
 (.ret)) (.skip)))
 (.seq (.seq (.ai [Qf 10 1 2,Ql 11 10,Qf 12 1 3,Ql 13 12,Q 14 (.bin .neq (.t 11) (.t 13))] [14] [])
 (.cond (.t 14) (.seq (.ai [Qb 4 false] [4] [])
 (.ret)) (.skip)))
 (.seq (.ai [Qb 4 true] [4] [])
 (.ret))))
def gX.m:Fn:={np:=2,body:=gX.b,res:=[.tmp 4]}
def gX.k(M:Nat→Option Body):Prop:=M 111=some (.code gX.m)
def j1.b:C:= .seq (.ai [Qv 2 0,Qv 3 1,Qb 4 false] [2,3] [2,3])
 (.seq (.seq (.ai [Qf 5 0 2,Ql 6 5,Qf 7 0 3,Ql 8 7,Q 9 (.bin .neq (.t 6) (.t 8))] [2,3,9] [2,3])
 (.cond (.t 9) (.seq (.ai [Qb 4 false] [4] [])
 (.ret)) (.skip)))
 (.seq (.seq (.ai [Qf 10 1 2,QL 11 2 10,Qf 12 1 3,QL 13 2 12,Q 14 (.call 111 [.t 11,.t 13] [] []),Q 15 (.not (.t 14))] [15] [])
 (.cond (.t 15) (.seq (.ai [Qb 4 false] [4] [])
 (.ret)) (.skip)))
 (.seq (.ai [Qb 4 true] [4] [])
 (.ret))))
def j1.m:Fn:={np:=2,body:=j1.b,res:=[.tmp 4]}
def j1.k(M:Nat→Option Body):Prop:=M 289=some (.code j1.m)∧gX.k M
def jP.l0:C:= .seq (.seq (.ai [Qm 11 5,Qm 12 0,Q 13 (.len (.t 12)),Q 14 (.bin .lss (.t 11) (.t 13))] [0,1,5,14] [])
 (.cond (.t 14) (.skip) (.exit 0)))
 (.seq (.block 1 (.seq (.gV [Qm 17 0,Qm 18 5,Qa 19 3 17 18,QL 20 3 19,Qm 21 1,Qm 22 5,Qa 23 3 21 22,QL 24 3 23,Q 25 (.call 289 [.t 20,.t 24] [] []),Q 26 (.not (.t 25))] [[],[],[0,1],[0,1,2],[],[],[4,5],[4,5,6],[0,1,2,3,4,5,6,7],[0,1,2,3,4,5,6,7,8]] [0,1,5,26] [])
 (.cond (.t 26) (.seq (.ai [Qb 4 false] [4] [])
 (.ret)) (.skip))))
 (.ai [Qm 15 5,Q 16 (.bin .add (.t 15) (kI 1)),Qm 5 16] [0,1,5] []))
def jP.b:C:= .seq (.ai [Qb 4 false] [0,1] [])
 (.seq (.seq (.ai [Qm 6 0,Q 7 (.len (.t 6)),Qm 8 1,Q 9 (.len (.t 8)),Q 10 (.bin .neq (.t 7) (.t 9))] [0,1,10] [])
 (.cond (.t 10) (.seq (.ai [Qb 4 false] [4] [])
 (.ret)) (.skip)))
 (.seq (.seq (.ai [Qi 5 0] [0,1,5] [])
 (.block 0 (.loop jP.l0)))
 (.seq (.ai [Qb 4 true] [4] [])
 (.ret))))
def jP.m:Fn:={np:=2,body:=jP.b,res:=[.tmp 4]}
def jP.k(M:Nat→Option Body):Prop:=M 252=some (.code jP.m)∧j1.k M
def jz.b:C:= .seq (.ai [Qv 2 0,Qv 3 1,Qb 4 false] [2,3] [2,3])
 (.seq (.seq (.ai [Qf 5 0 2,Ql 6 5,Qf 7 0 3,Ql 8 7,Q 9 (.bin .neq (.t 6) (.t 8))] [2,3,9] [2,3])
 (.cond (.t 9) (.seq (.ai [Qb 4 false] [4] [])
 (.ret)) (.skip)))
 (.seq (.seq (.ai [Qf 10 1 2,Ql 11 10,Qf 12 1 3,Ql 13 12,Q 14 (.bin .neq (.t 11) (.t 13))] [2,3,14] [2,3])
 (.cond (.t 14) (.seq (.ai [Qb 4 false] [4] [])
 (.ret)) (.skip)))
 (.seq (.seq (.ai [Qf 15 2 2,Ql 16 15,Qf 17 2 3,Ql 18 17,Q 19 (.call 252 [.t 16,.t 18] [] []),Q 20 (.not (.t 19))] [2,3,20] [2,3])
 (.cond (.t 20) (.seq (.ai [Qb 4 false] [4] [])
 (.ret)) (.skip)))
 (.seq (.seq (.ai [Qf 21 3 2,Ql 22 21,Qf 23 3 3,Ql 24 23,Q 25 (.bin .neq (.t 22) (.t 24))] [25] [])
 (.cond (.t 25) (.seq (.ai [Qb 4 false] [4] [])
 (.ret)) (.skip)))
 (.seq (.ai [Qb 4 true] [4] [])
 (.ret))))))
def jz.m:Fn:={np:=2,body:=jz.b,res:=[.tmp 4]}
def jz.k(M:Nat→Option Body):Prop:=M 210=some (.code jz.m)∧jP.k M
def ji.l0:C:= .seq (.seq (.ai [Qm 11 5,Qm 12 0,Q 13 (.len (.t 12)),Q 14 (.bin .lss (.t 11) (.t 13))] [0,1,5,14] [])
 (.cond (.t 14) (.skip) (.exit 0)))
 (.seq (.block 1 (.seq (.gV [Qm 17 0,Qm 18 5,Qa 19 4 17 18,QL 20 4 19,Qm 21 1,Qm 22 5,Qa 23 4 21 22,QL 24 4 23,Q 25 (.call 210 [.t 20,.t 24] [] []),Q 26 (.not (.t 25))] [[],[],[0,1],[0,1,2],[],[],[4,5],[4,5,6],[0,1,2,3,4,5,6,7],[0,1,2,3,4,5,6,7,8]] [0,1,5,26] [])
 (.cond (.t 26) (.seq (.ai [Qb 4 false] [4] [])
 (.ret)) (.skip))))
 (.ai [Qm 15 5,Q 16 (.bin .add (.t 15) (kI 1)),Qm 5 16] [0,1,5] []))
def ji.b:C:= .seq (.ai [Qb 4 false] [0,1] [])
 (.seq (.seq (.ai [Qm 6 0,Q 7 (.len (.t 6)),Qm 8 1,Q 9 (.len (.t 8)),Q 10 (.bin .neq (.t 7) (.t 9))] [0,1,10] [])
 (.cond (.t 10) (.seq (.ai [Qb 4 false] [4] [])
 (.ret)) (.skip)))
 (.seq (.seq (.ai [Qi 5 0] [0,1,5] [])
 (.block 0 (.loop ji.l0)))
 (.seq (.ai [Qb 4 true] [4] [])
 (.ret))))
def ji.m:Fn:={np:=2,body:=ji.b,res:=[.tmp 4]}
def ji.k(M:Nat→Option Body):Prop:=M 112=some (.code ji.m)∧jz.k M
def j2.b:C:= .seq (.ai [Qv 2 0,Qv 3 1,Qb 4 false] [2,3] [2,3])
 (.seq (.seq (.ai [Qf 5 0 2,Ql 6 5,Qf 7 0 3,Ql 8 7,Q 9 (.bin .neq (.t 6) (.t 8))] [2,3,9] [2,3])
 (.cond (.t 9) (.seq (.ai [Qb 4 false] [4] [])
 (.ret)) (.skip)))
 (.seq (.seq (.ai [Qf 10 1 2,Ql 11 10,Qf 12 1 3,Ql 13 12,Q 14 (.bin .neq (.t 11) (.t 13))] [2,3,14] [2,3])
 (.cond (.t 14) (.seq (.ai [Qb 4 false] [4] [])
 (.ret)) (.skip)))
 (.seq (.seq (.ai [Qf 15 2 2,QL 16 2 15,Qf 17 2 3,QL 18 2 17,Q 19 (.call 111 [.t 16,.t 18] [] []),Q 20 (.not (.t 19))] [2,3,20] [2,3])
 (.cond (.t 20) (.seq (.ai [Qb 4 false] [4] [])
 (.ret)) (.skip)))
 (.seq (.seq (.ai [Qf 21 4 2,Ql 22 21,Qf 23 4 3,Ql 24 23,Q 25 (.bin .neq (.t 22) (.t 24))] [2,3,25] [2,3])
 (.cond (.t 25) (.seq (.ai [Qb 4 false] [4] [])
 (.ret)) (.skip)))
 (.seq (.seq (.ai [Qf 26 5 2,Ql 27 26,Qf 28 5 3,Ql 29 28,Q 30 (.call 112 [.t 27,.t 29] [] []),Q 31 (.not (.t 30))] [2,3,31] [2,3])
 (.cond (.t 31) (.seq (.ai [Qb 4 false] [4] [])
 (.ret)) (.skip)))
 (.seq (.seq (.ai [Qf 32 6 2,Ql 33 32,Qf 34 6 3,Ql 35 34,Q 36 (.call 45 [.t 33,.t 35] [] []),Q 37 (.not (.t 36))] [37] [])
 (.cond (.t 37) (.seq (.ai [Qb 4 false] [4] [])
 (.ret)) (.skip)))
 (.seq (.ai [Qb 4 true] [4] [])
 (.ret))))))))
def j2.m:Fn:={np:=2,body:=j2.b,res:=[.tmp 4]}
def j2.k(M:Nat→Option Body):Prop:=M 21=some (.code j2.m)∧fN.k M∧gX.k M∧ji.k M
def bI.l0:C:= .seq (.seq (.ai [Qm 6 5,Qf 7 5 2,Ql 8 7,Q 9 (.len (.t 8)),Q 10 (.bin .lss (.t 6) (.t 9))] [1,2,5,10] [2])
 (.cond (.t 10) (.skip) (.exit 0)))
 (.seq (.block 1 (.seq (.ai [Qf 13 5 2,Ql 14 13,Qm 15 5,Qa 16 4 14 15,Qf 17 0 16,Ql 18 17,Qm 19 1,Q 20 (.bin .eql (.t 18) (.t 19))] [1,2,5,20] [2])
 (.cond (.t 20) (.seq (.ai [Qm 21 5,Qm 4 21] [4] [])
 (.ret)) (.skip))))
 (.ai [Qm 11 5,Q 12 (.bin .add (.t 11) (kI 1)),Qm 5 12] [1,2,5] [2]))
def bI.b:C:= .seq (.ai [Qv 2 0,Qi 4 0] [1,2] [2])
 (.seq (.seq (.ai [Qi 5 0] [1,2,5] [2])
 (.block 0 (.loop bI.l0)))
 (.seq (.ai [Qi 4 (-1)] [4] [])
 (.ret)))
def bI.m:Fn:={np:=2,body:=bI.b,res:=[.tmp 4]}
def bI.k(M:Nat→Option Body):Prop:=M 91=some (.code bI.m)
def az.l0:C:= .seq (.ai [Q 9 (.bin .lss (.t 8) (.t 7))] [0,1,7,8,9] [])
 (.seq (.cond (.t 9) (.skip) (.exit 0))
 (.seq (.block 1 (.seq (.ai [Qm 10 8,Qm 5 10] [0,1,5,7,8] [])
 (.seq (.ai [Qm 11 1,Qm 12 0,Qm 13 5,Qa 14 4 12 13,QL 15 4 14,Q 16 (.oO (.t 11) [.t 15])] [0,1,5,7,8,16] [])
 (.cond (.t 16) (.seq (.ai [Qm 17 5,Qm 4 17] [4] [])
 (.ret)) (.skip)))))
 (.ai [Q 18 (.bin .add (.t 8) (kI 1)),Qm 8 18] [0,1,7,8] [])))
def az.b:C:= .seq (.ai [Qi 4 0] [0,1] [])
 (.seq (.seq (.ai [Qm 6 0,Q 7 (.len (.t 6)),Qi 8 0] [0,1,7,8] [])
 (.block 0 (.loop az.l0)))
 (.seq (.ai [Qi 4 (-1)] [4] [])
 (.ret)))
def az.m:Fn:={np:=2,body:=az.b,res:=[.tmp 4]}
def az.k(M:Nat→Option Body):Prop:=M 161=some (.code az.m)
def gw.b:C:= .seq (.ai [Qv 2 0,Qb 3 false] [1,2] [2])
 (.seq (.ai [Qf 4 0 2,Ql 5 4,Ql 6 1,Q 7 (.bin .eql (.t 5) (.t 6)),Qm 3 7] [3] [])
 (.ret))
def gw.m:Fn:={np:=2,body:=gw.b,res:=[.tmp 3]}
def gw.k(M:Nat→Option Body):Prop:=M 160=some (.code gw.m)
def cy.b:C:= .seq (.ai [Qv 2 0,Qv 3 1,Qi 4 0] [2,3] [2,3])
 (.seq (.ai [Qf 5 5 2,Ql 6 5,Q 7 (.tL 160 [.t 3]),Q 8 (.call 161 [.t 6,.t 7] [] []),Qm 4 8] [4] [])
 (.ret))
def cy.m:Fn:={np:=2,body:=cy.b,res:=[.tmp 4]}
def cy.k(M:Nat→Option Body):Prop:=M 72=some (.code cy.m)∧gw.k M∧az.k M
def jd.b:C:= .seq (.ai [Qv 2 0,Qb 4 false] [1,2] [2])
 (.seq (.ai [QL 5 7 2,Qm 6 1,Q 7 (.call 72 [.t 5,.t 6] [] []),Q 8 (.bin .geq (.t 7) (kI 0)),Qm 4 8] [4] [])
 (.ret))
def jd.m:Fn:={np:=2,body:=jd.b,res:=[.tmp 4]}
def jd.k(M:Nat→Option Body):Prop:=M 20=some (.code jd.m)∧cy.k M
def dC.b:C:= .seq (.ai [Qv 3 0,Qv 4 1,Qb 6 false] [2,3,4] [3,4])
 (.seq (.ai [QL 9 7 3,Qm 10 2,Q 11 (.call 91 [.t 9,.t 10] [] []),Qm 7 11] [2,3,4,7] [3,4])
 (.seq (.seq (.ai [Qm 12 7,Q 13 (.bin .lss (.t 12) (kI 0))] [2,3,4,7,13] [3,4])
 (.cond (.t 13) (.seq (.ai [Qb 6 false] [6] [])
 (.ret)) (.skip)))
 (.seq (.ai [QL 14 7 4,Qm 15 2,Q 16 (.call 91 [.t 14,.t 15] [] []),Qm 8 16] [3,4,7,8] [3,4])
 (.seq (.seq (.ai [Qm 17 8,Q 18 (.bin .geq (.t 17) (kI 0))] [3,4,7,8,18] [3,4])
 (.cond (.t 18) (.seq (.gV [Qf 19 5 3,Ql 20 19,Qm 21 7,Qa 22 4 20 21,Qf 23 1 22,Ql 24 23,Qf 25 5 4,Ql 26 25,Qm 27 8,Qa 28 4 26 27,Qf 29 1 28,Ql 30 29,Q 31 (.bin .eql (.t 24) (.t 30)),Qm 6 31] [[],[0],[],[0,1,2],[0,1,2,3],[0,1,2,3,4],[],[6],[],[6,7,8],[6,7,8,9],[6,7,8,9,10],[0,1,2,3,4,5,6,7,8,9,10,11],[0,1,2,3,4,5,6,7,8,9,10,11,12]] [6] [])
 (.ret)) (.skip)))
 (.seq (.gV [Qf 32 5 3,Ql 33 32,Qm 34 7,Qa 35 4 33 34,Qf 36 1 35,Ql 37 36,Qf 38 4 4,Ql 39 38,Q 40 (.bin .geq (.t 37) (.t 39)),Qm 6 40] [[],[0],[],[0,1,2],[0,1,2,3],[0,1,2,3,4],[],[6],[0,1,2,3,4,5,6,7],[0,1,2,3,4,5,6,7,8]] [6] [])
 (.ret))))))
def dC.m:Fn:={np:=3,body:=dC.b,res:=[.tmp 6]}
def dC.k(M:Nat→Option Body):Prop:=M 22=some (.code dC.m)∧bI.k M
def dE.b:C:= .seq (.ai [Qv 3 0,Qv 4 1,Qb 6 false] [2,3,4] [3,4])
 (.seq (.gV [QL 9 7 3,Qm 10 2,Q 11 (.call 72 [.t 9,.t 10] [] []),QL 12 7 4,Qm 13 2,Q 14 (.call 72 [.t 12,.t 13] [] []),Qm 7 11,Qm 8 14] [[],[],[0,1],[],[],[0,1,2,3,4],[0,1,2,3,4,5],[0,1,2,3,4,5,6]] [3,4,7,8] [3,4])
 (.seq (.block 0 (.seq (.ai [Qm 16 7,Q 17 (.bin .lss (.t 16) (kI 0)),Qm 15 17] [3,4,7,8,15] [3,4])
 (.cond (.t 15) (.seq (.ai [Qb 6 false] [6] [])
 (.ret)) (.seq (.ai [Qm 19 8,Q 20 (.bin .geq (.t 19) (kI 0)),Qm 18 20] [3,4,7,8,18] [3,4])
 (.cond (.t 18) (.seq (.gV [Qf 21 5 4,Ql 22 21,Qm 23 8,Qa 24 4 22 23,Qf 25 1 24,Ql 26 25,Qf 27 5 3,Ql 28 27,Qm 29 7,Qa 30 4 28 29,Qf 31 1 30,Ql 32 31,Q 33 (.bin .eql (.t 26) (.t 32)),Qm 6 33] [[],[0],[],[0,1,2],[0,1,2,3],[0,1,2,3,4],[],[6],[],[6,7,8],[6,7,8,9],[6,7,8,9,10],[0,1,2,3,4,5,6,7,8,9,10,11],[0,1,2,3,4,5,6,7,8,9,10,11,12]] [6] [])
 (.ret)) (.skip))))))
 (.seq (.gV [Qf 34 5 3,Ql 35 34,Qm 36 7,Qa 37 4 35 36,Qf 38 1 37,Ql 39 38,Qf 40 4 4,Ql 41 40,Q 42 (.bin .geq (.t 39) (.t 41)),Qm 6 42] [[],[0],[],[0,1,2],[0,1,2,3],[0,1,2,3,4],[],[6],[0,1,2,3,4,5,6,7],[0,1,2,3,4,5,6,7,8]] [6] [])
 (.ret))))
def dE.m:Fn:={np:=3,body:=dE.b,res:=[.tmp 6]}
def dE.k(M:Nat→Option Body):Prop:=M 23=some (.code dE.m)∧cy.k M
def bP.b:C:= .seq (.ai [Qb 6 false] [0,1,2] [])
 (.seq (.ai [Qm 7 0,Qm 8 1,Q 9 (.bin .geq (.t 7) (.t 8)),Qm 10 9,Qg 11 (.mv (.t 0)) 10 true,Qg 12 (.mv (.t 2)) 10 true,Qg 13 (.bin .leq (.t 11) (.t 12)) 10 true,
   Q 14 (.pick (.t 10) (.t 13) (kB false)),Qm 6 14] [6] [])
 (.ret))
def bP.m:Fn:={np:=3,body:=bP.b,res:=[.tmp 6]}
def bP.k(M:Nat→Option Body):Prop:=M 101=some (.code bP.m)
def bE.b:C:= .seq (.ai [Qb 6 false] [0,1,2] [])
 (.seq (.ai [Qm 7 0,Qm 8 1,Q 9 (.bin .geq (.t 7) (.t 8)),Qm 10 9,Qg 11 (.mv (.t 0)) 10 true,Qg 12 (.mv (.t 2)) 10 true,Qg 13 (.bin .leq (.t 11) (.t 12)) 10 true,
   Q 14 (.pick (.t 10) (.t 13) (kB false)),Qm 6 14] [6] [])
 (.ret))
def bE.m:Fn:={np:=3,body:=bE.b,res:=[.tmp 6]}
def bE.k(M:Nat→Option Body):Prop:=M 98=some (.code bE.m)
def bD.l0:C:= .seq (.seq (.ai [Qm 5 0,Q 6 (.bin .gtr (.t 5) (kI 127))] [0,3,6] [4,13])
 (.cond (.t 6) (.skip) (.exit 0)))
 (.block 1 (.seq (.ai [Qm 7 3,Qm 8 0,Q 9 (.bin .rem (.t 8) (kI 128)),Q 10 (.bin .add (.t 9) (kI 128)),Q 11 (.ry .u8 (.t 10)),Q 12 (.bF 1 1 [.int .u8 0] [(0,.t 11)]),
   Q 13 (.app 1 1 (.t 7) (.t 12)),Qm 3 13] [0,3] [4,13])
 (.ai [Qm 14 0,Q 15 (.bin .quo (.t 14) (kI 128)),Qm 0 15] [0,3] [4,13])))
def bD.b:C:= .seq (.ai [Q 2 (.mv (.k (.str ⟨#[]⟩)))] [0] [])
 (.seq (.ai [Q 4 (.bF 1 0 [.int .u8 0] []),Qm 3 4] [0,3] [4,13])
 (.seq (.block 0 (.loop bD.l0))
 (.seq (.ai [Qm 16 3,Qm 17 0,Q 18 (.ry .u8 (.t 17)),Q 19 (.bF 1 1 [.int .u8 0] [(0,.t 18)]),Q 20 (.app 1 1 (.t 16) (.t 19)),Q 21 (.EI (.t 20)),Qm 2 21] [2] [])
 (.ret))))
def bD.m:Fn:={np:=1,body:=bD.b,res:=[.tmp 2]}
def bD.k(M:Nat→Option Body):Prop:=M 99=some (.code bD.m)
def cJ.l0:C:= .seq (.seq (.ai [Qm 9 0,Q 10 (.bin .gtr (.t 9) (kI 127))] [0,4,10] [8,17])
 (.cond (.t 10) (.skip) (.exit 0)))
 (.block 1 (.seq (.ai [Qm 11 4,Qm 12 0,Q 13 (.bin .and (.t 12) (kI 127)),Q 14 (.bin .or (.t 13) (kI 128)),Q 15 (.ry .u8 (.t 14)),Q 16 (.bF 1 1 [.int .u8 0] [(0,.t 15)]),
   Q 17 (.app 1 1 (.t 11) (.t 16)),Qm 4 17] [0,4] [8,17])
 (.ai [Qm 18 0,Q 19 (.bin .shr (.t 18) (.k (.int .u64 7))),Qm 0 19] [0,4] [8,17])))
def cJ.b:C:= .seq (.ai [Q 2 (.mv (.k (.str ⟨#[]⟩))),Qb 3 false] [0] [])
 (.seq (.seq (.ai [Qm 5 0,Q 6 (.call 101 [.t 5,kI 0,kI 1000000000] [] []),Q 7 (.not (.t 6))] [0,7] [])
 (.cond (.t 7) (.seq (.ai [Q 2 (.mv (.k (.str ⟨#[]⟩))),Qb 3 false] [2,3] [])
 (.ret)) (.skip)))
 (.seq (.ai [Q 8 (.bF 1 0 [.int .u8 0] []),Qm 4 8] [0,4] [8,17])
 (.seq (.block 0 (.loop cJ.l0))
 (.seq (.ai [Qm 20 4,Qm 21 0,Q 22 (.ry .u8 (.t 21)),Q 23 (.bF 1 1 [.int .u8 0] [(0,.t 22)]),Q 24 (.app 1 1 (.t 20) (.t 23)),Q 25 (.EI (.t 24)),Qm 2 25,Qb 3 true] [2,3] [])
 (.ret)))))
def cJ.m:Fn:={np:=1,body:=cJ.b,res:=[.tmp 2,.tmp 3]}
def cJ.k(M:Nat→Option Body):Prop:=M 230=some (.code cJ.m)∧bP.k M
def fS.b:C:= .seq (.ai [Q 2 (.mv (.k (.str ⟨#[]⟩))),Qb 3 false] [0] [])
 (.seq (.seq (.ai [Qm 6 0,Q 7 (.ky (.t 6)),Q 8 (.bin .gtr (.t 7) (kI 20000))] [0,8] [])
 (.cond (.t 8) (.seq (.ai [Q 2 (.mv (.k (.str ⟨#[]⟩))),Qb 3 false] [2,3] [])
 (.ret)) (.skip)))
 (.seq (.ai [Qm 10 0,Q 11 (.ky (.t 10)),Q 12 (.call 230 [.t 11] [] []),Qm 9 12,Qx 13 0 9,Qx 14 1 9,Qm 4 13,Qm 5 14] [0,4] [])
 (.seq (.ai [Qm 15 4,Qm 16 0,Q 17 (.bin .add (.t 15) (.t 16)),Qm 2 17,Qb 3 true] [2,3] [])
 (.ret))))
def fS.m:Fn:={np:=1,body:=fS.b,res:=[.tmp 2,.tmp 3]}
def fS.k(M:Nat→Option Body):Prop:=M 205=some (.code fS.m)∧cJ.k M
def b_.l0:C:= .seq (.seq (.ai [Qm 16 9,Qm 17 0,Q 18 (.ky (.t 17)),Q 19 (.bin .lss (.t 16) (.t 18)),Qm 20 19,Qg 21 (.mv (.t 9)) 20 true,Qg 22 (.mv (.t 1)) 20 true,Qg 23 (.bin .add (.t 22) (kI 5)) 20 true,
    Qg 24 (.bin .lss (.t 21) (.t 23)) 20 true,Q 25 (.pick (.t 20) (.t 24) (kB false))] [0,1,7,8,9,25] [])
 (.cond (.t 25) (.skip) (.exit 0)))
 (.seq (.block 1 (.seq (.ai [Qm 28 7,Qm 29 0,Qm 30 9,Q 31 (.idx (.t 29) (.t 30)),Q 32 (.ry .i64 (.t 31)),Q 33 (.bin .rem (.t 32) (kI 128)),Qm 34 8,Q 35 (.bin .mul (.t 33) (.t 34)),
   Q 36 (.bin .add (.t 28) (.t 35)),Qm 7 36] [0,1,7,8,9] [])
 (.seq (.ai [Qm 37 8,Q 38 (.bin .mul (.t 37) (kI 128)),Qm 8 38] [0,1,7,8,9] [])
 (.seq (.ai [Qm 39 0,Qm 40 9,Q 41 (.idx (.t 39) (.t 40)),Q 42 (.bin .lss (.t 41) (.k (.int .u8 128)))] [0,1,7,8,9,42] [])
 (.cond (.t 42) (.seq (.seq (.gV [Qm 43 7,Q 44 (.bin .gtr (.t 43) (kI 1000000000)),Qm 45 44,Qg 46 (.mv (.t 7)) 45 false,Qg 47 (.call 99 [.t 46] [] []) 45 false,Qg 48 (.mv (.t 0)) 45 false,
   Qg 49 (.mv (.t 1)) 45 false,Qg 50 (.mv (.t 9)) 45 false,Qg 51 (.bin .add (.t 50) (kI 1)) 45 false,Qg 52 (.oB (.t 48) (some (.t 49)) (some (.t 51))) 45 false,
   Qg 53 (.bin .neq (.t 47) (.t 52)) 45 false,Q 54 (.pick (.t 45) (kB true) (.t 53))] [[],[0],[0,1],[0,1,2],[0,1,2,3],[0,1,2],[0,1,2],[0,1,2],[0,1,2,7],[0,1,2,5,6,7,8],[0,1,2,3,4,5,6,7,8,9],[0,1,2,3,4,5,6,7,8,9,10]] [7,9,54] [])
 (.cond (.t 54) (.seq (.ai [Qi 4 0,Qi 5 0,Qb 6 false] [4,5,6] [])
 (.ret)) (.skip)))
 (.seq (.ai [Qm 55 7,Qm 56 9,Q 57 (.bin .add (.t 56) (kI 1)),Qm 4 55,Qm 5 57,Qb 6 true] [4,5,6] [])
 (.ret))) (.skip))))))
 (.ai [Qm 26 9,Q 27 (.bin .add (.t 26) (kI 1)),Qm 9 27] [0,1,7,8,9] []))
def b_.b:C:= .seq (.ai [Qi 4 0,Qi 5 0,Qb 6 false] [0,1] [])
 (.seq (.seq (.ai [Qm 10 1,Qm 11 0,Q 12 (.ky (.t 11)),Q 13 (.call 98 [.t 10,kI 0,.t 12] [] []),Q 14 (.not (.t 13))] [0,1,14] [])
 (.cond (.t 14) (.seq (.ai [Qi 4 0,Qi 5 0,Qb 6 false] [4,5,6] [])
 (.ret)) (.skip)))
 (.seq (.ai [Qi 7 0] [0,1,7] [])
 (.seq (.ai [Qi 8 1] [0,1,7,8] [])
 (.seq (.seq (.ai [Qm 15 1,Qm 9 15] [0,1,7,8,9] [])
 (.block 0 (.loop b_.l0)))
 (.seq (.ai [Qi 4 0,Qi 5 0,Qb 6 false] [4,5,6] [])
 (.ret))))))
def b_.m:Fn:={np:=2,body:=b_.b,res:=[.tmp 4,.tmp 5,.tmp 6]}
def b_.k(M:Nat→Option Body):Prop:=M 221=some (.code b_.m)∧bE.k M∧bD.k M
def cd.l0:C:= .seq (.seq (.ai [Qm 16 8,Q 17 (.bin .lss (.t 16) (kI 5)),Qm 18 17,Qg 19 (.mv (.t 1)) 18 true,Qg 20 (.mv (.t 8)) 18 true,Qg 21 (.bin .add (.t 19) (.t 20)) 18 true,Qg 22 (.mv (.t 0)) 18 true,
    Qg 23 (.ky (.t 22)) 18 true,Qg 24 (.bin .lss (.t 21) (.t 23)) 18 true,Q 25 (.pick (.t 18) (.t 24) (kB false))] [0,1,7,8,25] [])
 (.cond (.t 25) (.skip) (.exit 0)))
 (.seq (.block 1 (.seq (.ai [Qm 28 7,Qm 29 0,Qm 30 1,Qm 31 8,Q 32 (.bin .add (.t 30) (.t 31)),Q 33 (.idx (.t 29) (.t 32)),Q 34 (.bin .and (.t 33) (.k (.int .u8 127))),Q 35 (.ry .i64 (.t 34)),Qm 36 8,
   Q 37 (.bin .mul (kI 7) (.t 36)),Q 38 (.bin .shl (.t 35) (.t 37)),Q 39 (.bin .or (.t 28) (.t 38)),Qm 7 39] [0,1,7,8] [])
 (.seq (.seq (.ai [Qm 40 0,Qm 41 1,Qm 42 8,Q 43 (.bin .add (.t 41) (.t 42)),Q 44 (.idx (.t 40) (.t 43)),Q 45 (.bin .gtr (.t 44) (.k (.int .u8 127)))] [0,1,7,8,45] [])
 (.cond (.t 45) (.exit 1) (.skip)))
 (.seq (.seq (.ai [Qm 47 7,Q 48 (.call 230 [.t 47] [] []),Qm 46 48,Qx 49 0 46,Qx 50 1 46,Qm 9 49,Qm 10 50] [0,1,7,8,9,10] [])
 (.seq (.ai [Qm 51 10,Q 52 (.not (.t 51)),Qm 53 52,Qg 54 (.mv (.t 9)) 53 false,Qg 55 (.mv (.t 0)) 53 false,Qg 56 (.mv (.t 1)) 53 false,Qg 57 (.mv (.t 1)) 53 false,
   Qg 58 (.mv (.t 8)) 53 false,Qg 59 (.bin .add (.t 57) (.t 58)) 53 false,Qg 60 (.bin .add (.t 59) (kI 1)) 53 false,Qg 61 (.oB (.t 55) (some (.t 56)) (some (.t 60))) 53 false,
   Qg 62 (.bin .neq (.t 54) (.t 61)) 53 false,Q 63 (.pick (.t 53) (kB true) (.t 62))] [1,7,8,63] [])
 (.cond (.t 63) (.seq (.ai [Qi 4 0,Qi 5 0,Qb 6 false] [4,5,6] [])
 (.ret)) (.skip))))
 (.seq (.ai [Qm 64 7,Qm 65 1,Qm 66 8,Q 67 (.bin .add (.t 65) (.t 66)),Q 68 (.bin .add (.t 67) (kI 1)),Qm 4 64,Qm 5 68,Qb 6 true] [4,5,6] [])
 (.ret))))))
 (.ai [Qm 26 8,Q 27 (.bin .add (.t 26) (kI 1)),Qm 8 27] [0,1,7,8] []))
def cd.b:C:= .seq (.ai [Qi 4 0,Qi 5 0,Qb 6 false] [0,1] [])
 (.seq (.seq (.ai [Qm 11 1,Qm 12 0,Q 13 (.ky (.t 12)),Q 14 (.call 101 [.t 11,kI 0,.t 13] [] []),Q 15 (.not (.t 14))] [0,1,15] [])
 (.cond (.t 15) (.seq (.ai [Qi 4 0,Qi 5 0,Qb 6 false] [4,5,6] [])
 (.ret)) (.skip)))
 (.seq (.ai [Qi 7 0] [0,1,7] [])
 (.seq (.seq (.ai [Qi 8 0] [0,1,7,8] [])
 (.block 0 (.loop cd.l0)))
 (.seq (.ai [Qi 4 0,Qi 5 0,Qb 6 false] [4,5,6] [])
 (.ret)))))
def cd.m:Fn:={np:=2,body:=cd.b,res:=[.tmp 4,.tmp 5,.tmp 6]}
def cd.k(M:Nat→Option Body):Prop:=M 231=some (.code cd.m)∧bP.k M∧cJ.k M
def cW.b:C:= .seq (.ai [Q 4 (.mv (.k (.str ⟨#[]⟩))),Qi 5 0,Qb 6 false] [0,1] [])
 (.seq (.ai [Qm 11 0,Qm 12 1,Q 13 (.call 221 [.t 11,.t 12] [] []),Qm 10 13,Qx 14 0 10,Qx 15 1 10,Qx 16 2 10,Qm 7 14,Qm 8 15,Qm 9 16] [0,7,8,9] [])
 (.seq (.seq (.ai [Qm 17 9,Q 18 (.not (.t 17)),Qm 19 18,Qg 20 (.mv (.t 7)) 19 false,Qg 21 (.bin .gtr (.t 20) (kI 20000)) 19 false,Q 22 (.pick (.t 19) (kB true) (.t 21)),Qm 23 22,
   Qg 24 (.mv (.t 7)) 23 false,Qg 25 (.mv (.t 0)) 23 false,Qg 26 (.ky (.t 25)) 23 false,Qg 27 (.mv (.t 8)) 23 false,Qg 28 (.bin .sub (.t 26) (.t 27)) 23 false,
   Qg 29 (.bin .gtr (.t 24) (.t 28)) 23 false,Q 30 (.pick (.t 23) (kB true) (.t 29))] [0,7,8,30] [])
 (.cond (.t 30) (.seq (.ai [Q 4 (.mv (.k (.str ⟨#[]⟩))),Qi 5 0,Qb 6 false] [4,5,6] [])
 (.ret)) (.skip)))
 (.seq (.ai [Qm 31 0,Qm 32 8,Qm 33 8,Qm 34 7,Q 35 (.bin .add (.t 33) (.t 34)),Q 36 (.oB (.t 31) (some (.t 32)) (some (.t 35))),Qm 37 8,Qm 38 7,Q 39 (.bin .add (.t 37) (.t 38)),
   Qm 4 36,Qm 5 39,Qb 6 true] [4,5,6] [])
 (.ret))))
def cW.m:Fn:={np:=2,body:=cW.b,res:=[.tmp 4,.tmp 5,.tmp 6]}
def cW.k(M:Nat→Option Body):Prop:=M 206=some (.code cW.m)∧b_.k M
def cY.b:C:= .seq (.ai [Q 4 (.mv (.k (.str ⟨#[]⟩))),Qi 5 0,Qb 6 false] [0,1] [])
 (.seq (.ai [Qm 11 0,Qm 12 1,Q 13 (.call 231 [.t 11,.t 12] [] []),Qm 10 13,Qx 14 0 10,Qx 15 1 10,Qx 16 2 10,Qm 7 14,Qm 8 15,Qm 9 16] [0,7,8,9] [])
 (.seq (.seq (.ai [Qm 17 9,Q 18 (.not (.t 17)),Qm 19 18,Qg 20 (.mv (.t 7)) 19 false,Qg 21 (.bin .gtr (.t 20) (kI 20000)) 19 false,Q 22 (.pick (.t 19) (kB true) (.t 21)),Qm 23 22,
   Qg 24 (.mv (.t 7)) 23 false,Qg 25 (.mv (.t 0)) 23 false,Qg 26 (.ky (.t 25)) 23 false,Qg 27 (.mv (.t 8)) 23 false,Qg 28 (.bin .sub (.t 26) (.t 27)) 23 false,
   Qg 29 (.bin .gtr (.t 24) (.t 28)) 23 false,Q 30 (.pick (.t 23) (kB true) (.t 29))] [0,7,8,30] [])
 (.cond (.t 30) (.seq (.ai [Q 4 (.mv (.k (.str ⟨#[]⟩))),Qi 5 0,Qb 6 false] [4,5,6] [])
 (.ret)) (.skip)))
 (.seq (.ai [Qm 31 0,Qm 32 8,Qm 33 8,Qm 34 7,Q 35 (.bin .add (.t 33) (.t 34)),Q 36 (.oB (.t 31) (some (.t 32)) (some (.t 35))),Qm 37 8,Qm 38 7,Q 39 (.bin .add (.t 37) (.t 38)),
   Qm 4 36,Qm 5 39,Qb 6 true] [4,5,6] [])
 (.ret))))
def cY.m:Fn:={np:=2,body:=cY.b,res:=[.tmp 4,.tmp 5,.tmp 6]}
def cY.k(M:Nat→Option Body):Prop:=M 207=some (.code cY.m)∧cd.k M
def jq.b:C:= .seq (.ai [Q 2 (.mv (.k (.str ⟨#[]⟩)))] [0] [])
 (.seq (.ai [Qm 6 0,Q 7 (.call 205 [.t 6] [] []),Qm 5 7,Qx 8 0 5,Qx 9 1 5,Qm 3 8,Qm 4 9] [3] [])
 (.seq (.ai [Qm 10 3,Qm 2 10] [2] [])
 (.ret)))
def jq.m:Fn:={np:=1,body:=jq.b,res:=[.tmp 2]}
def jq.k(M:Nat→Option Body):Prop:=M 102=some (.code jq.m)∧fS.k M
def fE.l0:C:= .seq (.ai [Q 11 (.bin .lss (.t 10) (.t 9))] [3,8,9,10,11] [])
 (.seq (.cond (.t 11) (.skip) (.exit 0))
 (.seq (.block 1 (.seq (.ai [Qa 12 1 8 10,Ql 13 12,Qm 5 13] [3,5,8,9,10] [])
 (.seq (.ai [Qm 15 5,Q 16 (.call 230 [.t 15] [] []),Qm 14 16,Qx 17 0 14,Qx 18 1 14,Qm 6 17,Qm 7 18] [3,6,8,9,10] [])
 (.ai [Qm 19 3,Qm 20 6,Q 21 (.bin .add (.t 19) (.t 20)),Qm 3 21] [3,8,9,10] []))))
 (.ai [Q 22 (.bin .add (.t 10) (kI 1)),Qm 10 22] [3,8,9,10] [])))
def fE.b:C:= .seq (.ai [Q 2 (.mv (.k (.str ⟨#[]⟩)))] [0] [])
 (.seq (.ai [Q 3 (.mv (.k (.str ⟨#[]⟩)))] [0,3] [])
 (.seq (.seq (.ai [Qm 8 0,Q 9 (.len (.t 8)),Qi 10 0] [3,8,9,10] [])
 (.block 0 (.loop fE.l0)))
 (.seq (.ai [Qm 23 3,Qm 2 23] [2] [])
 (.ret))))
def fE.m:Fn:={np:=1,body:=fE.b,res:=[.tmp 2]}
def fE.k(M:Nat→Option Body):Prop:=M 151=some (.code fE.m)∧cJ.k M
def gn.b:C:= .seq (.ai [Qv 1 0,Qb 2 false] [1] [1])
 (.seq (.ai [Qf 3 0 1,Ql 4 3,Q 5 (.call 101 [.t 4,kI 0,kI 100000] [] []),Qm 6 5,Qg 7 (.bN 1 (.t 1)) 6 true,Qg 8 (.load false 1 (.t 7)) 6 true,
   Qg 9 (.call 101 [.t 8,kI 0,kI 2] [] []) 6 true,Q 10 (.pick (.t 6) (.t 9) (kB false)),Qm 2 10] [2] [])
 (.ret))
def gn.m:Fn:={np:=1,body:=gn.b,res:=[.tmp 2]}
def gn.k(M:Nat→Option Body):Prop:=M 164=some (.code gn.m)∧bP.k M
def gi.b:C:= .seq (.ai [Qv 1 0,Qb 2 false] [1] [1])
 (.seq (.ai [Qf 3 0 1,Ql 4 3,Q 5 (.call 98 [.t 4,kI 0,kI 100000] [] []),Qm 6 5,Qg 7 (.bN 1 (.t 1)) 6 true,Qg 8 (.load false 1 (.t 7)) 6 true,
   Qg 9 (.call 98 [.t 8,kI 0,kI 2] [] []) 6 true,Q 10 (.pick (.t 6) (.t 9) (kB false)),Qm 2 10] [2] [])
 (.ret))
def gi.m:Fn:={np:=1,body:=gi.b,res:=[.tmp 2]}
def gi.k(M:Nat→Option Body):Prop:=M 183=some (.code gi.m)∧bE.k M
def ja.b:C:= .seq (.ai [Qv 1 0,Qb 2 false] [1] [1])
 (.seq (.ai [Qf 3 1 1,QL 4 2 3,Q 5 (.call 164 [.t 4] [] []),Qm 6 5,Qg 7 (.bN 0 (.t 1)) 6 true,Qg 8 (.load false 1 (.t 7)) 6 true,
   Qg 9 (.call 101 [.t 8,kI 0,kI 1000000000] [] []) 6 true,Q 10 (.pick (.t 6) (.t 9) (kB false)),Qm 2 10] [2] [])
 (.ret))
def ja.m:Fn:={np:=1,body:=ja.b,res:=[.tmp 2]}
def ja.k(M:Nat→Option Body):Prop:=M 272=some (.code ja.m)∧bP.k M∧gn.k M
def iX.b:C:= .seq (.ai [Qv 1 0,Qb 2 false] [1] [1])
 (.seq (.ai [Qf 3 1 1,QL 4 2 3,Q 5 (.call 183 [.t 4] [] []),Qm 6 5,Qg 7 (.bN 0 (.t 1)) 6 true,Qg 8 (.load false 1 (.t 7)) 6 true,
   Qg 9 (.call 98 [.t 8,kI 0,kI 1000000000] [] []) 6 true,Q 10 (.pick (.t 6) (.t 9) (kB false)),Qm 2 10] [2] [])
 (.ret))
def iX.m:Fn:={np:=1,body:=iX.b,res:=[.tmp 2]}
def iX.k(M:Nat→Option Body):Prop:=M 276=some (.code iX.m)∧bE.k M∧gi.k M
def dx.l0:C:= .seq (.ai [Q 8 (.bin .lss (.t 7) (.t 6))] [0,5,6,7,8] [])
 (.seq (.cond (.t 8) (.skip) (.exit 0))
 (.seq (.block 1 (.seq (.ai [Qa 9 3 5 7,QL 10 3 9,Q 4 (.alloc [.int .i64 0,.int .i64 0,.int .i64 0]),Qs 3 4 10] [0,4,5,6,7] [4])
 (.seq (.ai [QL 11 3 4,Q 12 (.call 272 [.t 11] [] []),Q 13 (.not (.t 12)),Qm 14 13,Qg 15 (.bN 0 (.t 4)) 14 false,Qg 16 (.load false 1 (.t 15)) 14 false,
   Qg 17 (.bin .gtr (.t 16) (kI 1)) 14 false,Q 18 (.pick (.t 14) (kB true) (.t 17))] [0,5,6,7,18] [])
 (.cond (.t 18) (.seq (.ai [Qb 2 false] [2] [])
 (.ret)) (.skip)))))
 (.ai [Q 19 (.bin .add (.t 7) (kI 1)),Qm 7 19] [0,5,6,7] [])))
def dx.b:C:= .seq (.ai [Qb 2 false] [0] [])
 (.seq (.seq (.ai [Qm 5 0,Q 6 (.len (.t 5)),Qi 7 0] [0,5,6,7] [])
 (.block 0 (.loop dx.l0)))
 (.seq (.ai [Qm 20 0,Q 21 (.len (.t 20)),Q 22 (.bin .eql (.t 21) (kI 3)),Qm 2 22] [2] [])
 (.ret)))
def dx.m:Fn:={np:=1,body:=dx.b,res:=[.tmp 2]}
def dx.k(M:Nat→Option Body):Prop:=M 235=some (.code dx.m)∧ja.k M
def dw.l0:C:= .seq (.seq (.ai [Qm 4 3,Qm 5 0,Q 6 (.len (.t 5)),Q 7 (.bin .lss (.t 4) (.t 6))] [0,3,7] [])
 (.cond (.t 7) (.skip) (.exit 0)))
 (.seq (.block 1 (.seq (.ai [Qm 10 0,Qm 11 3,Qa 12 3 10 11,QL 13 3 12,Q 14 (.call 276 [.t 13] [] []),Q 15 (.not (.t 14)),Qm 16 15,Qg 17 (.mv (.t 0)) 16 false,Qg 18 (.mv (.t 3)) 16 false,
   Qg 19 (.kG 3 (.t 17) (.t 18)) 16 false,Qg 20 (.bN 0 (.t 19)) 16 false,Qg 21 (.load false 1 (.t 20)) 16 false,Qg 22 (.bin .gtr (.t 21) (kI 1)) 16 false,
   Q 23 (.pick (.t 16) (kB true) (.t 22))] [0,3,23] [])
 (.cond (.t 23) (.seq (.ai [Qb 2 false] [2] [])
 (.ret)) (.skip))))
 (.ai [Qm 8 3,Q 9 (.bin .add (.t 8) (kI 1)),Qm 3 9] [0,3] []))
def dw.b:C:= .seq (.ai [Qb 2 false] [0] [])
 (.seq (.seq (.ai [Qi 3 0] [0,3] [])
 (.block 0 (.loop dw.l0)))
 (.seq (.ai [Qm 24 0,Q 25 (.len (.t 24)),Q 26 (.bin .eql (.t 25) (kI 3)),Qm 2 26] [2] [])
 (.ret)))
def dw.m:Fn:={np:=1,body:=dw.b,res:=[.tmp 2]}
def dw.k(M:Nat→Option Body):Prop:=M 242=some (.code dw.m)∧iX.k M
def gg.b:C:= .seq (.ai [Qb 2 false] [0] [])
 (.seq (.ai [Qm 3 0,Q 4 (.call 101 [.t 3,kI 1,kI 9999] [] []),Qm 2 4] [2] [])
 (.ret))
def gg.m:Fn:={np:=1,body:=gg.b,res:=[.tmp 2]}
def gg.k(M:Nat→Option Body):Prop:=M 147=some (.code gg.m)∧bP.k M
def eK.b:C:= .seq (.ai [Qv 1 0,Qb 2 false] [1] [1])
 (.seq (.ai [Qf 3 0 1,Ql 4 3,Q 5 (.call 147 [.t 4] [] []),Qm 6 5,Qg 7 (.bN 1 (.t 1)) 6 true,Qg 8 (.load false 1 (.t 7)) 6 true,Qg 9 (.call 147 [.t 8] [] []) 6 true,
   Q 10 (.pick (.t 6) (.t 9) (kB false)),Qm 11 10,Qg 12 (.bN 2 (.t 1)) 11 true,Qg 13 (.load false 1 (.t 12)) 11 true,Qg 14 (.call 235 [.t 13] [] []) 11 true,
   Q 15 (.pick (.t 11) (.t 14) (kB false)),Qm 16 15,Qg 17 (.bN 3 (.t 1)) 16 true,Qg 18 (.load false 1 (.t 17)) 16 true,Qg 19 (.ky (.t 18)) 16 true,
   Qg 20 (.bin .leq (.t 19) (kI 60)) 16 true,Q 21 (.pick (.t 16) (.t 20) (kB false)),Qm 2 21] [2] [])
 (.ret))
def eK.m:Fn:={np:=1,body:=eK.b,res:=[.tmp 2]}
def eK.k(M:Nat→Option Body):Prop:=M 166=some (.code eK.m)∧gg.k M∧dx.k M
def dJ.b:C:= .seq (.ai [Qv 1 0,Qb 2 false] [1] [1])
 (.seq (.ai [Qf 3 0 1,Ql 4 3,Q 5 (.call 98 [.t 4,kI 1,kI 9999] [] []),Qm 6 5,Qg 7 (.bN 1 (.t 1)) 6 true,Qg 8 (.load false 1 (.t 7)) 6 true,
   Qg 9 (.call 98 [.t 8,kI 1,kI 9999] [] []) 6 true,Q 10 (.pick (.t 6) (.t 9) (kB false)),Qm 11 10,Qg 12 (.bN 2 (.t 1)) 11 true,Qg 13 (.load false 1 (.t 12)) 11 true,
   Qg 14 (.call 242 [.t 13] [] []) 11 true,Q 15 (.pick (.t 11) (.t 14) (kB false)),Qm 16 15,Qg 17 (.bN 3 (.t 1)) 16 true,Qg 18 (.load false 1 (.t 17)) 16 true,
   Qg 19 (.ky (.t 18)) 16 true,Qg 20 (.bin .leq (.t 19) (kI 60)) 16 true,Q 21 (.pick (.t 16) (.t 20) (kB false)),Qm 2 21] [2] [])
 (.ret))
def dJ.m:Fn:={np:=1,body:=dJ.b,res:=[.tmp 2]}
def dJ.k(M:Nat→Option Body):Prop:=M 187=some (.code dJ.m)∧bE.k M∧dw.k M
def dP.l0:C:= .seq (.seq (.ai [Qm 4 3,Qm 5 0,Q 6 (.ky (.t 5)),Q 7 (.bin .lss (.t 4) (.t 6))] [0,3,7] [])
 (.cond (.t 7) (.skip) (.exit 0)))
 (.seq (.block 1 (.seq (.ai [Qm 10 0,Qm 11 3,Q 12 (.idx (.t 10) (.t 11)),Q 13 (.bin .lss (.t 12) (.k (.int .u8 97))),Qm 14 13,Qg 15 (.mv (.t 0)) 14 false,Qg 16 (.mv (.t 3)) 14 false,
   Qg 17 (.idx (.t 15) (.t 16)) 14 false,Qg 18 (.bin .gtr (.t 17) (.k (.int .u8 122))) 14 false,Q 19 (.pick (.t 14) (kB true) (.t 18)),Qm 20 19,Qg 21 (.mv (.t 0)) 20 true,
   Qg 22 (.mv (.t 3)) 20 true,Qg 23 (.idx (.t 21) (.t 22)) 20 true,Qg 24 (.bin .lss (.t 23) (.k (.int .u8 48))) 20 true,Qg 25 (.mv (.t 24)) 20 true,Qg 26 (.mv (.t 0)) 25 false,
   Qg 27 (.mv (.t 3)) 25 false,Qg 28 (.idx (.t 26) (.t 27)) 25 false,Qg 29 (.bin .gtr (.t 28) (.k (.int .u8 57))) 25 false,Qg 30 (.pick (.t 25) (kB true) (.t 29)) 20 true,
   Q 31 (.pick (.t 20) (.t 30) (kB false))] [0,3,31] [])
 (.cond (.t 31) (.seq (.ai [Qb 2 false] [2] [])
 (.ret)) (.skip))))
 (.ai [Qm 8 3,Q 9 (.bin .add (.t 8) (kI 1)),Qm 3 9] [0,3] []))
def dP.b:C:= .seq (.ai [Qb 2 false] [0] [])
 (.seq (.seq (.ai [Qi 3 0] [0,3] [])
 (.block 0 (.loop dP.l0)))
 (.seq (.ai [Qm 32 0,Q 33 (.ky (.t 32)),Q 34 (.call 101 [.t 33,kI 1,kI 12] [] []),Qm 2 34] [2] [])
 (.ret)))
def dP.m:Fn:={np:=1,body:=dP.b,res:=[.tmp 2]}
def dP.k(M:Nat→Option Body):Prop:=M 89=some (.code dP.m)∧bP.k M
def dI.l0:C:= .seq (.seq (.ai [Qm 4 3,Qm 5 0,Q 6 (.ky (.t 5)),Q 7 (.bin .lss (.t 4) (.t 6))] [0,3,7] [])
 (.cond (.t 7) (.skip) (.exit 0)))
 (.seq (.block 1 (.seq (.ai [Qm 10 0,Qm 11 3,Q 12 (.idx (.t 10) (.t 11)),Q 13 (.bin .lss (.t 12) (.k (.int .u8 97))),Qm 14 13,Qg 15 (.mv (.t 0)) 14 false,Qg 16 (.mv (.t 3)) 14 false,
   Qg 17 (.idx (.t 15) (.t 16)) 14 false,Qg 18 (.bin .gtr (.t 17) (.k (.int .u8 122))) 14 false,Q 19 (.pick (.t 14) (kB true) (.t 18)),Qm 20 19,Qg 21 (.mv (.t 0)) 20 true,
   Qg 22 (.mv (.t 3)) 20 true,Qg 23 (.idx (.t 21) (.t 22)) 20 true,Qg 24 (.bin .lss (.t 23) (.k (.int .u8 48))) 20 true,Qg 25 (.mv (.t 24)) 20 true,Qg 26 (.mv (.t 0)) 25 false,
   Qg 27 (.mv (.t 3)) 25 false,Qg 28 (.idx (.t 26) (.t 27)) 25 false,Qg 29 (.bin .gtr (.t 28) (.k (.int .u8 57))) 25 false,Qg 30 (.pick (.t 25) (kB true) (.t 29)) 20 true,
   Q 31 (.pick (.t 20) (.t 30) (kB false))] [0,3,31] [])
 (.cond (.t 31) (.seq (.ai [Qb 2 false] [2] [])
 (.ret)) (.skip))))
 (.ai [Qm 8 3,Q 9 (.bin .add (.t 8) (kI 1)),Qm 3 9] [0,3] []))
def dI.b:C:= .seq (.ai [Qb 2 false] [0] [])
 (.seq (.seq (.ai [Qi 3 0] [0,3] [])
 (.block 0 (.loop dI.l0)))
 (.seq (.ai [Qm 32 0,Q 33 (.ky (.t 32)),Q 34 (.call 98 [.t 33,kI 1,kI 12] [] []),Qm 2 34] [2] [])
 (.ret)))
def dI.m:Fn:={np:=1,body:=dI.b,res:=[.tmp 2]}
def dI.k(M:Nat→Option Body):Prop:=M 90=some (.code dI.m)∧bE.k M
def dg.l0:C:= .seq (.ai [Q 10 (.bin .lss (.t 9) (.t 8))] [0,1,7,8,9,10] [])
 (.seq (.cond (.t 10) (.skip) (.exit 0))
 (.seq (.block 1 (.seq (.ai [Qm 11 9,Qa 12 1 7 9,Ql 13 12,Qm 5 11,Qm 6 13] [0,1,5,6,7,8,9] [])
 (.seq (.ai [Qm 14 6,Q 15 (.call 147 [.t 14] [] []),Q 16 (.not (.t 15)),Qm 17 16,Qg 18 (.mv (.t 5)) 17 false,Qg 19 (.bin .gtr (.t 18) (kI 0)) 17 false,Qg 20 (.mv (.t 19)) 17 false,
   Qg 21 (.mv (.t 0)) 20 true,Qg 22 (.mv (.t 5)) 20 true,Qg 23 (.bin .sub (.t 22) (kI 1)) 20 true,Qg 24 (.kG 1 (.t 21) (.t 23)) 20 true,Qg 25 (.load false 1 (.t 24)) 20 true,
   Qg 26 (.mv (.t 6)) 20 true,Qg 27 (.bin .geq (.t 25) (.t 26)) 20 true,Qg 28 (.pick (.t 20) (.t 27) (kB false)) 17 false,Q 29 (.pick (.t 17) (kB true) (.t 28))] [0,1,7,8,9,29] [])
 (.cond (.t 29) (.seq (.ai [Qb 4 false] [4] [])
 (.ret)) (.skip)))))
 (.ai [Q 30 (.bin .add (.t 9) (kI 1)),Qm 9 30] [0,1,7,8,9] [])))
def dg.b:C:= .seq (.ai [Qb 4 false] [0,1] [])
 (.seq (.seq (.ai [Qm 7 0,Q 8 (.len (.t 7)),Qi 9 0] [0,1,7,8,9] [])
 (.block 0 (.loop dg.l0)))
 (.seq (.ai [Qm 31 0,Q 32 (.len (.t 31)),Qm 33 1,Q 34 (.bin .leq (.t 32) (.t 33)),Qm 4 34] [4] [])
 (.ret)))
def dg.m:Fn:={np:=2,body:=dg.b,res:=[.tmp 4]}
def dg.k(M:Nat→Option Body):Prop:=M 165=some (.code dg.m)∧gg.k M
def cq.l0:C:= .seq (.seq (.ai [Qm 6 5,Qm 7 0,Q 8 (.len (.t 7)),Q 9 (.bin .lss (.t 6) (.t 8))] [0,1,5,9] [])
 (.cond (.t 9) (.skip) (.exit 0)))
 (.seq (.block 1 (.seq (.gV [Qm 12 0,Qm 13 5,Qa 14 1 12 13,Ql 15 14,Q 16 (.call 98 [.t 15,kI 1,kI 9999] [] []),Q 17 (.not (.t 16)),Qm 18 17,Qg 19 (.mv (.t 5)) 18 false,
   Qg 20 (.bin .gtr (.t 19) (kI 0)) 18 false,Qg 21 (.mv (.t 20)) 18 false,Qg 22 (.mv (.t 0)) 21 true,Qg 23 (.mv (.t 5)) 21 true,Qg 24 (.bin .sub (.t 23) (kI 1)) 21 true,
   Qg 25 (.kG 1 (.t 22) (.t 24)) 21 true,Qg 26 (.load false 1 (.t 25)) 21 true,Qg 27 (.mv (.t 0)) 21 true,Qg 28 (.mv (.t 5)) 21 true,Qg 29 (.kG 1 (.t 27) (.t 28)) 21 true,
   Qg 30 (.load false 1 (.t 29)) 21 true,Qg 31 (.bin .geq (.t 26) (.t 30)) 21 true,Qg 32 (.pick (.t 21) (.t 31) (kB false)) 18 false,Q 33 (.pick (.t 18) (kB true) (.t 32))] [[],[],[0,1],[0,1,2],[0,1,2,3],[0,1,2,3,4],[0,1,2,3,4,5],[0,1,2,3,4,5,6],[0,1,2,3,4,5,6,7],[0,1,2,3,4,5,6,7,8],[0,1,2,3,4,5,6,7,8,9],[0,1,2,3,4,5,6,7,8,9],[0,1,2,3,4,5,6,7,8,9,11],[0,1,2,3,4,5,6,7,8,9,10,11,12],[0,1,2,3,4,5,6,7,8,9,10,11,12,13],[0,1,2,3,4,5,6,7,8,9],[0,1,2,3,4,5,6,7,8,9],[0,1,2,3,4,5,6,7,8,9,15,16],[0,1,2,3,4,5,6,7,8,9,15,16,17],[0,1,2,3,4,5,6,7,8,9,10,11,12,13,14,15,16,17,18],[0,1,2,3,4,5,6,7,8,9,10,11,12,13,14,15,16,17,18,19],[0,1,2,3,4,5,6,7,8,9,10,11,12,13,14,15,16,17,18,19,20]] [0,1,5,33] [])
 (.cond (.t 33) (.seq (.ai [Qb 4 false] [4] [])
 (.ret)) (.skip))))
 (.ai [Qm 10 5,Q 11 (.bin .add (.t 10) (kI 1)),Qm 5 11] [0,1,5] []))
def cq.b:C:= .seq (.ai [Qb 4 false] [0,1] [])
 (.seq (.seq (.ai [Qi 5 0] [0,1,5] [])
 (.block 0 (.loop cq.l0)))
 (.seq (.ai [Qm 34 0,Q 35 (.len (.t 34)),Qm 36 1,Q 37 (.bin .leq (.t 35) (.t 36)),Qm 4 37] [4] [])
 (.ret)))
def cq.m:Fn:={np:=2,body:=cq.b,res:=[.tmp 4]}
def cq.k(M:Nat→Option Body):Prop:=M 186=some (.code cq.m)∧bE.k M
def bf.l0:C:= .seq (.seq (.ai [Qm 6 5,Qm 7 0,Q 8 (.len (.t 7)),Q 9 (.bin .lss (.t 6) (.t 8))] [0,1,5,9] [])
 (.cond (.t 9) (.skip) (.exit 0)))
 (.seq (.block 1 (.seq (.ai [Qm 12 0,Qm 13 5,Qa 14 1 12 13,Ql 15 14,Qm 16 1,Q 17 (.bin .eql (.t 15) (.t 16))] [0,1,5,17] [])
 (.cond (.t 17) (.seq (.ai [Qb 4 true] [4] [])
 (.ret)) (.skip))))
 (.ai [Qm 10 5,Q 11 (.bin .add (.t 10) (kI 1)),Qm 5 11] [0,1,5] []))
def bf.b:C:= .seq (.ai [Qb 4 false] [0,1] [])
 (.seq (.seq (.ai [Qi 5 0] [0,1,5] [])
 (.block 0 (.loop bf.l0)))
 (.seq (.ai [Qb 4 false] [4] [])
 (.ret)))
def bf.m:Fn:={np:=2,body:=bf.b,res:=[.tmp 4]}
def bf.k(M:Nat→Option Body):Prop:=M 132=some (.code bf.m)
def bJ.l0:C:= .seq (.ai [Q 9 (.bin .lss (.t 8) (.t 7))] [0,1,7,8,9] [])
 (.seq (.cond (.t 9) (.skip) (.exit 0))
 (.seq (.block 1 (.seq (.ai [Qm 10 8,Qm 5 10] [0,1,5,7,8] [])
 (.seq (.ai [Qm 11 1,Qm 12 0,Qm 13 5,Qa 14 1 12 13,Ql 15 14,Q 16 (.bin .eql (.t 11) (.t 15))] [0,1,5,7,8,16] [])
 (.cond (.t 16) (.seq (.ai [Qm 17 5,Qm 4 17] [4] [])
 (.ret)) (.skip)))))
 (.ai [Q 18 (.bin .add (.t 8) (kI 1)),Qm 8 18] [0,1,7,8] [])))
def bJ.b:C:= .seq (.ai [Qi 4 0] [0,1] [])
 (.seq (.seq (.ai [Qm 6 0,Q 7 (.len (.t 6)),Qi 8 0] [0,1,7,8] [])
 (.block 0 (.loop bJ.l0)))
 (.seq (.ai [Qi 4 (-1)] [4] [])
 (.ret)))
def bJ.m:Fn:={np:=2,body:=bJ.b,res:=[.tmp 4]}
def bJ.k(M:Nat→Option Body):Prop:=M 234=some (.code bJ.m)
def aI.b:C:= .seq (.ai [Qb 4 false] [0,1] [])
 (.seq (.ai [Qm 5 0,Qm 6 1,Q 7 (.call 234 [.t 5,.t 6] [] []),Q 8 (.bin .geq (.t 7) (kI 0)),Qm 4 8] [4] [])
 (.ret))
def aI.m:Fn:={np:=2,body:=aI.b,res:=[.tmp 4]}
def aI.k(M:Nat→Option Body):Prop:=M 156=some (.code aI.m)∧bJ.k M
def bC.l0:C:= .seq (.ai [Q 43 (.bin .lss (.t 42) (.t 41))] [1,40,41,42,43] [1])
 (.seq (.cond (.t 43) (.skip) (.exit 0))
 (.seq (.block 1 (.seq (.ai [Qm 44 42,Qa 45 4 40 42,QL 46 4 45,Q 4 (.alloc [.int .i64 0,.int .i64 0,.aL 3,.str ⟨#[]⟩]),Qm 3 44,Qs 4 4 46] [1,3,4,40,41,42] [1,4])
 (.seq (.gV [QL 47 4 4,Q 48 (.call 166 [.t 47] [] []),Q 49 (.not (.t 48)),Qm 50 49,Qg 51 (.bN 1 (.t 4)) 50 false,Qg 52 (.load false 1 (.t 51)) 50 false,Qg 53 (.bN 4 (.t 1)) 50 false,
   Qg 54 (.load false 1 (.t 53)) 50 false,Qg 55 (.bin .geq (.t 52) (.t 54)) 50 false,Q 56 (.pick (.t 50) (kB true) (.t 55)),Qm 57 56,Qg 58 (.mv (.t 3)) 57 false,
   Qg 59 (.bin .gtr (.t 58) (kI 0)) 57 false,Qg 60 (.mv (.t 59)) 57 false,Qg 61 (.bN 5 (.t 1)) 60 true,Qg 62 (.load false 1 (.t 61)) 60 true,Qg 63 (.mv (.t 3)) 60 true,
   Qg 64 (.bin .sub (.t 63) (kI 1)) 60 true,Qg 65 (.kG 4 (.t 62) (.t 64)) 60 true,Qg 66 (.bN 1 (.t 65)) 60 true,Qg 67 (.load false 1 (.t 66)) 60 true,
   Qg 68 (.bN 1 (.t 4)) 60 true,Qg 69 (.load false 1 (.t 68)) 60 true,Qg 70 (.bin .geq (.t 67) (.t 69)) 60 true,Qg 71 (.pick (.t 60) (.t 70) (kB false)) 57 false,
   Q 72 (.pick (.t 57) (kB true) (.t 71)),Qm 73 72,Qg 74 (.load true 7 (.t 1)) 73 false,Qg 75 (.bN 0 (.t 4)) 73 false,Qg 76 (.load false 1 (.t 75)) 73 false,
   Qg 77 (.call 72 [.t 74,.t 76] [] []) 73 false,Qg 78 (.mv (.t 3)) 73 false,Qg 79 (.bin .neq (.t 77) (.t 78)) 73 false,Q 80 (.pick (.t 73) (kB true) (.t 79)),Qm 81 80,
   Qg 82 (.bN 6 (.t 1)) 81 false,Qg 83 (.load false 1 (.t 82)) 81 false,Qg 84 (.bN 0 (.t 4)) 81 false,Qg 85 (.load false 1 (.t 84)) 81 false,
   Qg 86 (.call 156 [.t 83,.t 85] [] []) 81 false,Q 87 (.pick (.t 81) (kB true) (.t 86))] [[],[0],[0,1],[0,1,2],[0,1,2,3],[0,1,2,3,4],[0,1,2,3],[0,1,2,3,6],[0,1,2,3,4,5,6,7],[0,1,2,3,4,5,6,7,8],[0,1,2,3,4,5,6,7,8,9],[0,1,2,3,4,5,6,7,8,9,10],[0,1,2,3,4,5,6,7,8,9,10,11],[0,1,2,3,4,5,6,7,8,9,10,11,12],[0,1,2,3,4,5,6,7,8,9,10,11,12,13],[0,1,2,3,4,5,6,7,8,9,10,11,12,13,14],[0,1,2,3,4,5,6,7,8,9,10,11,12,13],[0,1,2,3,4,5,6,7,8,9,10,11,12,13,16],[0,1,2,3,4,5,6,7,8,9,10,11,12,13,14,15,16,17],[0,1,2,3,4,5,6,7,8,9,10,11,12,13,14,15,16,17,18],[0,1,2,3,4,5,6,7,8,9,10,11,12,13,14,15,16,17,18,19],[0,1,2,3,4,5,6,7,8,9,10,11,12,13],[0,1,2,3,4,5,6,7,8,9,10,11,12,13,21],[0,1,2,3,4,5,6,7,8,9,10,11,12,13,14,15,16,17,18,19,20,21,22],[0,1,2,3,4,5,6,7,8,9,10,11,12,13,14,15,16,17,18,19,20,21,22,23],[0,1,2,3,4,5,6,7,8,9,10,11,12,13,14,15,16,17,18,19,20,21,22,23,24],[0,1,2,3,4,5,6,7,8,9,10,11,12,13,14,15,16,17,18,19,20,21,22,23,24,25],[0,1,2,3,4,5,6,7,8,9,10,11,12,13,14,15,16,17,18,19,20,21,22,23,24,25,26],[0,1,2,3,4,5,6,7,8,9,10,11,12,13,14,15,16,17,18,19,20,21,22,23,24,25,26],[0,1,2,3,4,5,6,7,8,9,10,11,12,13,14,15,16,17,18,19,20,21,22,23,24,25,26,28],[0,1,2,3,4,5,6,7,8,9,10,11,12,13,14,15,16,17,18,19,20,21,22,23,24,25,26,27,28,29],[0,1,2,3,4,5,6,7,8,9,10,11,12,13,14,15,16,17,18,19,20,21,22,23,24,25,26],[0,1,2,3,4,5,6,7,8,9,10,11,12,13,14,15,16,17,18,19,20,21,22,23,24,25,26,27,28,29,30,31],[0,1,2,3,4,5,6,7,8,9,10,11,12,13,14,15,16,17,18,19,20,21,22,23,24,25,26,27,28,29,30,31,32],[0,1,2,3,4,5,6,7,8,9,10,11,12,13,14,15,16,17,18,19,20,21,22,23,24,25,26,27,28,29,30,31,32,33],[0,1,2,3,4,5,6,7,8,9,10,11,12,13,14,15,16,17,18,19,20,21,22,23,24,25,26,27,28,29,30,31,32,33,34],[0,1,2,3,4,5,6,7,8,9,10,11,12,13,14,15,16,17,18,19,20,21,22,23,24,25,26,27,28,29,30,31,32,33,34,35],[0,1,2,3,4,5,6,7,8,9,10,11,12,13,14,15,16,17,18,19,20,21,22,23,24,25,26,27,28,29,30,31,32,33,34],[0,1,2,3,4,5,6,7,8,9,10,11,12,13,14,15,16,17,18,19,20,21,22,23,24,25,26,27,28,29,30,31,32,33,34,37],[0,1,2,3,4,5,6,7,8,9,10,11,12,13,14,15,16,17,18,19,20,21,22,23,24,25,26,27,28,29,30,31,32,33,34,35,36,37,38],[0,1,2,3,4,5,6,7,8,9,10,11,12,13,14,15,16,17,18,19,20,21,22,23,24,25,26,27,28,29,30,31,32,33,34,35,36,37,38,39]] [1,40,41,42,87] [1])
 (.cond (.t 87) (.seq (.ai [Qb 2 false] [2] [])
 (.ret)) (.skip)))))
 (.ai [Q 88 (.bin .add (.t 42) (kI 1)),Qm 42 88] [1,40,41,42] [1])))
def bC.b:C:= .seq (.ai [Qv 1 0,Qb 2 false] [1] [1])
 (.seq (.seq (.ai [Qf 5 0 1,Ql 6 5,Q 7 (.call 147 [.t 6] [] []),Q 8 (.not (.t 7)),Qm 9 8,Qg 10 (.bN 1 (.t 1)) 9 false,Qg 11 (.load false 1 (.t 10)) 9 false,
   Qg 12 (.call 89 [.t 11] [] []) 9 false,Qg 13 (.not (.t 12)) 9 false,Q 14 (.pick (.t 9) (kB true) (.t 13)),Qm 15 14,Qg 16 (.bN 2 (.t 1)) 15 false,
   Qg 17 (.load true 2 (.t 16)) 15 false,Qg 18 (.call 164 [.t 17] [] []) 15 false,Qg 19 (.not (.t 18)) 15 false,Q 20 (.pick (.t 15) (kB true) (.t 19)),Qm 21 20,
   Qg 22 (.bN 4 (.t 1)) 21 false,Qg 23 (.load false 1 (.t 22)) 21 false,Qg 24 (.call 101 [.t 23,kI 1,kI 10000] [] []) 21 false,Qg 25 (.not (.t 24)) 21 false,
   Q 26 (.pick (.t 21) (kB true) (.t 25)),Qm 27 26,Qg 28 (.bN 5 (.t 1)) 27 false,Qg 29 (.load false 1 (.t 28)) 27 false,Qg 30 (.len (.t 29)) 27 false,
   Qg 31 (.bin .gtr (.t 30) (kI 10)) 27 false,Q 32 (.pick (.t 27) (kB true) (.t 31)),Qm 33 32,Qg 34 (.bN 6 (.t 1)) 33 false,Qg 35 (.load false 1 (.t 34)) 33 false,
   Qg 36 (.call 165 [.t 35,kI 40] [] []) 33 false,Qg 37 (.not (.t 36)) 33 false,Q 38 (.pick (.t 33) (kB true) (.t 37))] [1,38] [1])
 (.cond (.t 38) (.seq (.ai [Qb 2 false] [2] [])
 (.ret)) (.skip)))
 (.seq (.seq (.ai [Qf 39 5 1,Ql 40 39,Q 41 (.len (.t 40)),Qi 42 0] [1,40,41,42] [1])
 (.block 0 (.loop bC.l0)))
 (.seq (.ai [Qb 2 true] [2] [])
 (.ret))))
def bC.m:Fn:={np:=1,body:=bC.b,res:=[.tmp 2]}
def bC.k(M:Nat→Option Body):Prop:=M 74=some (.code bC.m)∧cy.k M∧dP.k M∧bP.k M∧gg.k M∧aI.k M∧gn.k M∧dg.k M∧eK.k M
def br.l0:C:= .seq (.seq (.ai [Qm 39 3,Qf 40 5 1,Ql 41 40,Q 42 (.len (.t 41)),Q 43 (.bin .lss (.t 39) (.t 42))] [1,3,43] [1])
 (.cond (.t 43) (.skip) (.exit 0)))
 (.seq (.block 1 (.seq (.ai [Qf 46 5 1,Ql 47 46,Qm 48 3,Qa 49 4 47 48,QL 50 4 49,Q 4 (.alloc [.int .i64 0,.int .i64 0,.aL 3,.str ⟨#[]⟩]),Qs 4 4 50] [1,3,4] [1,4])
 (.seq (.gV [QL 51 4 4,Q 52 (.call 187 [.t 51] [] []),Q 53 (.not (.t 52)),Qm 54 53,Qg 55 (.bN 1 (.t 4)) 54 false,Qg 56 (.load false 1 (.t 55)) 54 false,Qg 57 (.bN 4 (.t 1)) 54 false,
   Qg 58 (.load false 1 (.t 57)) 54 false,Qg 59 (.bin .geq (.t 56) (.t 58)) 54 false,Q 60 (.pick (.t 54) (kB true) (.t 59)),Qm 61 60,Qg 62 (.mv (.t 3)) 61 false,
   Qg 63 (.bin .gtr (.t 62) (kI 0)) 61 false,Qg 64 (.mv (.t 63)) 61 false,Qg 65 (.bN 5 (.t 1)) 64 true,Qg 66 (.load false 1 (.t 65)) 64 true,Qg 67 (.mv (.t 3)) 64 true,
   Qg 68 (.bin .sub (.t 67) (kI 1)) 64 true,Qg 69 (.kG 4 (.t 66) (.t 68)) 64 true,Qg 70 (.bN 1 (.t 69)) 64 true,Qg 71 (.load false 1 (.t 70)) 64 true,
   Qg 72 (.bN 1 (.t 4)) 64 true,Qg 73 (.load false 1 (.t 72)) 64 true,Qg 74 (.bin .geq (.t 71) (.t 73)) 64 true,Qg 75 (.pick (.t 64) (.t 74) (kB false)) 61 false,
   Q 76 (.pick (.t 61) (kB true) (.t 75)),Qm 77 76,Qg 78 (.bN 6 (.t 1)) 77 false,Qg 79 (.load false 1 (.t 78)) 77 false,Qg 80 (.bN 0 (.t 4)) 77 false,
   Qg 81 (.load false 1 (.t 80)) 77 false,Qg 82 (.call 132 [.t 79,.t 81] [] []) 77 false,Q 83 (.pick (.t 77) (kB true) (.t 82)),Qm 84 83,Qg 85 (.load true 7 (.t 1)) 84 false,
   Qg 86 (.bN 0 (.t 4)) 84 false,Qg 87 (.load false 1 (.t 86)) 84 false,Qg 88 (.call 91 [.t 85,.t 87] [] []) 84 false,Qg 89 (.mv (.t 3)) 84 false,
   Qg 90 (.bin .neq (.t 88) (.t 89)) 84 false,Q 91 (.pick (.t 84) (kB true) (.t 90))] [[],[0],[0,1],[0,1,2],[0,1,2,3],[0,1,2,3,4],[0,1,2,3],[0,1,2,3,6],[0,1,2,3,4,5,6,7],[0,1,2,3,4,5,6,7,8],[0,1,2,3,4,5,6,7,8,9],[0,1,2,3,4,5,6,7,8,9,10],[0,1,2,3,4,5,6,7,8,9,10,11],[0,1,2,3,4,5,6,7,8,9,10,11,12],[0,1,2,3,4,5,6,7,8,9,10,11,12,13],[0,1,2,3,4,5,6,7,8,9,10,11,12,13,14],[0,1,2,3,4,5,6,7,8,9,10,11,12,13],[0,1,2,3,4,5,6,7,8,9,10,11,12,13,16],[0,1,2,3,4,5,6,7,8,9,10,11,12,13,14,15,16,17],[0,1,2,3,4,5,6,7,8,9,10,11,12,13,14,15,16,17,18],[0,1,2,3,4,5,6,7,8,9,10,11,12,13,14,15,16,17,18,19],[0,1,2,3,4,5,6,7,8,9,10,11,12,13],[0,1,2,3,4,5,6,7,8,9,10,11,12,13,21],[0,1,2,3,4,5,6,7,8,9,10,11,12,13,14,15,16,17,18,19,20,21,22],[0,1,2,3,4,5,6,7,8,9,10,11,12,13,14,15,16,17,18,19,20,21,22,23],[0,1,2,3,4,5,6,7,8,9,10,11,12,13,14,15,16,17,18,19,20,21,22,23,24],[0,1,2,3,4,5,6,7,8,9,10,11,12,13,14,15,16,17,18,19,20,21,22,23,24,25],[0,1,2,3,4,5,6,7,8,9,10,11,12,13,14,15,16,17,18,19,20,21,22,23,24,25,26],[0,1,2,3,4,5,6,7,8,9,10,11,12,13,14,15,16,17,18,19,20,21,22,23,24,25,26,27],[0,1,2,3,4,5,6,7,8,9,10,11,12,13,14,15,16,17,18,19,20,21,22,23,24,25,26],[0,1,2,3,4,5,6,7,8,9,10,11,12,13,14,15,16,17,18,19,20,21,22,23,24,25,26,29],[0,1,2,3,4,5,6,7,8,9,10,11,12,13,14,15,16,17,18,19,20,21,22,23,24,25,26,27,28,29,30],[0,1,2,3,4,5,6,7,8,9,10,11,12,13,14,15,16,17,18,19,20,21,22,23,24,25,26,27,28,29,30,31],[0,1,2,3,4,5,6,7,8,9,10,11,12,13,14,15,16,17,18,19,20,21,22,23,24,25,26,27,28,29,30,31,32],[0,1,2,3,4,5,6,7,8,9,10,11,12,13,14,15,16,17,18,19,20,21,22,23,24,25,26,27,28,29,30,31,32,33],[0,1,2,3,4,5,6,7,8,9,10,11,12,13,14,15,16,17,18,19,20,21,22,23,24,25,26,27,28,29,30,31,32,33],[0,1,2,3,4,5,6,7,8,9,10,11,12,13,14,15,16,17,18,19,20,21,22,23,24,25,26,27,28,29,30,31,32,33,35],[0,1,2,3,4,5,6,7,8,9,10,11,12,13,14,15,16,17,18,19,20,21,22,23,24,25,26,27,28,29,30,31,32,33,34,35,36],[0,1,2,3,4,5,6,7,8,9,10,11,12,13,14,15,16,17,18,19,20,21,22,23,24,25,26,27,28,29,30,31,32,33],[0,1,2,3,4,5,6,7,8,9,10,11,12,13,14,15,16,17,18,19,20,21,22,23,24,25,26,27,28,29,30,31,32,33,34,35,36,37,38],[0,1,2,3,4,5,6,7,8,9,10,11,12,13,14,15,16,17,18,19,20,21,22,23,24,25,26,27,28,29,30,31,32,33,34,35,36,37,38,39]] [1,3,91] [1])
 (.cond (.t 91) (.seq (.ai [Qb 2 false] [2] [])
 (.ret)) (.skip)))))
 (.ai [Qm 44 3,Q 45 (.bin .add (.t 44) (kI 1)),Qm 3 45] [1,3] [1]))
def br.b:C:= .seq (.ai [Qv 1 0,Qb 2 false] [1] [1])
 (.seq (.seq (.ai [Qf 5 0 1,Ql 6 5,Q 7 (.call 98 [.t 6,kI 1,kI 9999] [] []),Q 8 (.not (.t 7)),Qm 9 8,Qg 10 (.bN 1 (.t 1)) 9 false,Qg 11 (.load false 1 (.t 10)) 9 false,
   Qg 12 (.call 90 [.t 11] [] []) 9 false,Qg 13 (.not (.t 12)) 9 false,Q 14 (.pick (.t 9) (kB true) (.t 13)),Qm 15 14,Qg 16 (.bN 2 (.t 1)) 15 false,
   Qg 17 (.load true 2 (.t 16)) 15 false,Qg 18 (.call 183 [.t 17] [] []) 15 false,Qg 19 (.not (.t 18)) 15 false,Q 20 (.pick (.t 15) (kB true) (.t 19)),Qm 21 20,
   Qg 22 (.bN 4 (.t 1)) 21 false,Qg 23 (.load false 1 (.t 22)) 21 false,Qg 24 (.call 98 [.t 23,kI 1,kI 10000] [] []) 21 false,Qg 25 (.not (.t 24)) 21 false,
   Q 26 (.pick (.t 21) (kB true) (.t 25)),Qm 27 26,Qg 28 (.bN 5 (.t 1)) 27 false,Qg 29 (.load false 1 (.t 28)) 27 false,Qg 30 (.len (.t 29)) 27 false,
   Qg 31 (.bin .gtr (.t 30) (kI 10)) 27 false,Q 32 (.pick (.t 27) (kB true) (.t 31)),Qm 33 32,Qg 34 (.bN 6 (.t 1)) 33 false,Qg 35 (.load false 1 (.t 34)) 33 false,
   Qg 36 (.call 186 [.t 35,kI 40] [] []) 33 false,Qg 37 (.not (.t 36)) 33 false,Q 38 (.pick (.t 33) (kB true) (.t 37))] [1,38] [1])
 (.cond (.t 38) (.seq (.ai [Qb 2 false] [2] [])
 (.ret)) (.skip)))
 (.seq (.seq (.ai [Qi 3 0] [1,3] [1])
 (.block 0 (.loop br.l0)))
 (.seq (.ai [Qb 2 true] [2] [])
 (.ret))))
def br.m:Fn:={np:=1,body:=br.b,res:=[.tmp 2]}
def br.k(M:Nat→Option Body):Prop:=M 88=some (.code br.m)∧dI.k M∧bI.k M∧bE.k M∧bf.k M∧gi.k M∧cq.k M∧dJ.k M
def ep.l0:C:= .seq (.ai [Q 20 (.bin .lss (.t 19) (.t 18))] [1,4,17,18,19,20] [1])
 (.seq (.cond (.t 20) (.skip) (.exit 0))
 (.seq (.block 1 (.seq (.ai [Qa 21 3 17 19,QL 22 3 21,Q 6 (.alloc [.int .i64 0,.int .i64 0,.int .i64 0]),Qs 3 6 22] [1,4,6,17,18,19] [1,6])
 (.ai [Qm 23 4,Qf 24 0 6,Ql 25 24,Qf 26 1 6,Qf 27 0 26,Ql 28 27,Qf 29 1 6,Qf 30 1 29,Ql 31 30,Q 32 (.bF 1 3 [.int .i64 0] [(0,.t 25),(1,.t 28),(2,.t 31)]),
   Q 33 (.call 151 [.t 32] [] []),Q 34 (.bin .add (.t 23) (.t 33)),Qm 4 34] [1,4,17,18,19] [1])))
 (.ai [Q 35 (.bin .add (.t 19) (kI 1)),Qm 19 35] [1,4,17,18,19] [1])))
def ep.b:C:= .seq (.ai [Qv 1 0,Q 2 (.mv (.k (.str ⟨#[]⟩))),Qb 3 false] [1] [1])
 (.seq (.seq (.ai [QL 7 4 1,Q 8 (.call 166 [.t 7] [] []),Q 9 (.not (.t 8))] [1,9] [1])
 (.cond (.t 9) (.seq (.ai [Q 2 (.mv (.k (.str ⟨#[]⟩))),Qb 3 false] [2,3] [])
 (.ret)) (.skip)))
 (.seq (.ai [Qf 10 0 1,Ql 11 10,Qf 12 1 1,Ql 13 12,Q 14 (.bF 1 2 [.int .i64 0] [(0,.t 11),(1,.t 13)]),Q 15 (.call 151 [.t 14] [] []),Qm 4 15] [1,4] [1])
 (.seq (.seq (.ai [Qf 16 2 1,Ql 17 16,Q 18 (.len (.t 17)),Qi 19 0] [1,4,17,18,19] [1])
 (.block 0 (.loop ep.l0)))
 (.seq (.ai [Qm 36 4,Qf 37 3 1,Ql 38 37,Q 39 (.call 102 [.t 38] [] []),Q 40 (.bin .add (.t 36) (.t 39)),Qm 2 40,Qb 3 true] [2,3] [])
 (.ret)))))
def ep.m:Fn:={np:=1,body:=ep.b,res:=[.tmp 2,.tmp 3]}
def ep.k(M:Nat→Option Body):Prop:=M 213=some (.code ep.m)∧jq.k M∧fE.k M∧eK.k M
def eh.l0:C:= .seq (.seq (.ai [Qm 16 5,Qf 17 2 1,Ql 18 17,Q 19 (.len (.t 18)),Q 20 (.bin .lss (.t 16) (.t 19))] [1,4,5,20] [1])
 (.cond (.t 20) (.skip) (.exit 0)))
 (.seq (.block 1 (.gV [Qm 23 4,Qf 24 2 1,Ql 25 24,Qm 26 5,Qa 27 3 25 26,Qf 28 0 27,Ql 29 28,Q 30 (.call 99 [.t 29] [] []),Q 31 (.bin .add (.t 23) (.t 30)),Qf 32 2 1,Ql 33 32,Qm 34 5,
   Qa 35 3 33 34,Qf 36 1 35,Qf 37 0 36,Ql 38 37,Q 39 (.call 99 [.t 38] [] []),Q 40 (.bin .add (.t 31) (.t 39)),Qf 41 2 1,Ql 42 41,Qm 43 5,Qa 44 3 42 43,Qf 45 1 44,
   Qf 46 1 45,Ql 47 46,Q 48 (.call 99 [.t 47] [] []),Q 49 (.bin .add (.t 40) (.t 48)),Qm 4 49] [[],[],[1],[],[1,2,3],[1,2,3,4],[1,2,3,4,5],[1,2,3,4,5,6],[0,1,2,3,4,5,6,7],[],[9],[],[9,10,11],[9,10,11,12],[9,10,11,12,13],[9,10,11,12,13,14],[1,2,3,4,5,6,7,9,10,11,12,13,14,15],[0,1,2,3,4,5,6,7,8,9,10,11,12,13,14,15,16],[],[18],[],[18,19,20],[18,19,20,21],[18,19,20,21,22],[18,19,20,21,22,23],[1,2,3,4,5,6,7,9,10,11,12,13,14,15,16,18,19,20,21,22,23,24],[0,1,2,3,4,5,6,7,8,9,10,11,12,13,14,15,16,17,18,19,20,21,22,23,24,25],[0,1,2,3,4,5,6,7,8,9,10,11,12,13,14,15,16,17,18,19,20,21,22,23,24,25,26]] [1,4,5] [1]))
 (.ai [Qm 21 5,Q 22 (.bin .add (.t 21) (kI 1)),Qm 5 22] [1,4,5] [1]))
def eh.b:C:= .seq (.ai [Qv 1 0,Q 2 (.mv (.k (.str ⟨#[]⟩))),Qb 3 false] [1] [1])
 (.seq (.seq (.ai [QL 6 4 1,Q 7 (.call 187 [.t 6] [] []),Q 8 (.not (.t 7))] [1,8] [1])
 (.cond (.t 8) (.seq (.ai [Q 2 (.mv (.k (.str ⟨#[]⟩))),Qb 3 false] [2,3] [])
 (.ret)) (.skip)))
 (.seq (.gV [Qf 9 0 1,Ql 10 9,Q 11 (.call 99 [.t 10] [] []),Qf 12 1 1,Ql 13 12,Q 14 (.call 99 [.t 13] [] []),Q 15 (.bin .add (.t 11) (.t 14)),Qm 4 15] [[],[0],[0,1],[],[3],[0,1,2,3,4],[0,1,2,3,4,5],[0,1,2,3,4,5,6]] [1,4] [1])
 (.seq (.seq (.ai [Qi 5 0] [1,4,5] [1])
 (.block 0 (.loop eh.l0)))
 (.seq (.gV [Qm 50 4,Qf 51 3 1,Ql 52 51,Q 53 (.ky (.t 52)),Q 54 (.call 99 [.t 53] [] []),Q 55 (.bin .add (.t 50) (.t 54)),Qf 56 3 1,Ql 57 56,Q 58 (.bin .add (.t 55) (.t 57)),Qm 2 58,
   Qb 3 true] [[],[],[1],[1,2],[1,2,3],[0,1,2,3,4],[],[6],[0,1,2,3,4,5,6,7],[0,1,2,3,4,5,6,7,8],[0,1,2,3,4,5,6,7,8,9]] [2,3] [])
 (.ret)))))
def eh.m:Fn:={np:=1,body:=eh.b,res:=[.tmp 2,.tmp 3]}
def eh.k(M:Nat→Option Body):Prop:=M 122=some (.code eh.m)∧bD.k M∧dJ.k M
def e_.l0:C:= .seq (.ai [Q 34 (.bin .lss (.t 33) (.t 32))] [1,3,31,32,33,34] [1])
 (.seq (.cond (.t 34) (.skip) (.exit 0))
 (.seq (.block 1 (.seq (.ai [Qa 35 4 31 33,QL 36 4 35,Q 5 (.alloc [.int .i64 0,.int .i64 0,.aL 3,.str ⟨#[]⟩]),Qs 4 5 36] [1,3,5,31,32,33] [1,5])
 (.seq (.ai [QL 38 4 5,Q 39 (.call 213 [.t 38] [] []),Qm 37 39,Qx 40 0 37,Qx 41 1 37,Qm 6 40,Qm 7 41] [1,3,6,31,32,33] [1])
 (.ai [Qm 42 3,Qm 43 6,Q 44 (.bin .add (.t 42) (.t 43)),Qm 3 44] [1,3,31,32,33] [1]))))
 (.ai [Q 45 (.bin .add (.t 33) (kI 1)),Qm 33 45] [1,3,31,32,33] [1])))
def e_.b:C:= .seq (.ai [Qv 1 0,Q 2 (.mv (.k (.str ⟨#[]⟩)))] [1] [1])
 (.seq (.gV [Qf 8 0 1,Ql 9 8,Q 10 (.bF 1 1 [.int .i64 0] [(0,.t 9)]),Q 11 (.call 151 [.t 10] [] []),Qf 12 1 1,Ql 13 12,Q 14 (.call 102 [.t 13] [] []),
   Q 15 (.bin .add (.t 11) (.t 14)),Qf 16 2 1,Qf 17 0 16,Ql 18 17,Qf 19 2 1,Qf 20 1 19,Ql 21 20,Qf 22 4 1,Ql 23 22,Qf 24 5 1,Ql 25 24,Q 26 (.len (.t 25)),
   Q 27 (.bF 1 4 [.int .i64 0] [(0,.t 18),(1,.t 21),(2,.t 23),(3,.t 26)]),Q 28 (.call 151 [.t 27] [] []),Q 29 (.bin .add (.t 15) (.t 28)),Qm 3 29] [[],[0],[0,1],[0,1,2],[],[4],[0,1,2,3,4,5],[0,1,2,3,4,5,6],[],[8],[8,9],[],[11],[11,12],[],[14],[],[16],[16,17],[8,9,10,11,12,13,14,15,16,17,18],[0,1,2,3,4,5,6,8,9,10,11,12,13,14,15,16,17,18,19],[0,1,2,3,4,5,6,7,8,9,10,11,12,13,14,15,16,17,18,19,20],[0,1,2,3,4,5,6,7,8,9,10,11,12,13,14,15,16,17,18,19,20,21]] [1,3] [1])
 (.seq (.seq (.ai [Qf 30 5 1,Ql 31 30,Q 32 (.len (.t 31)),Qi 33 0] [1,3,31,32,33] [1])
 (.block 0 (.loop e_.l0)))
 (.seq (.gV [Qm 46 3,Qf 47 6 1,Ql 48 47,Q 49 (.len (.t 48)),Q 50 (.bF 1 1 [.int .i64 0] [(0,.t 49)]),Q 51 (.call 151 [.t 50] [] []),Q 52 (.bin .add (.t 46) (.t 51)),Qf 53 6 1,
   Ql 54 53,Q 55 (.call 151 [.t 54] [] []),Q 56 (.bin .add (.t 52) (.t 55)),Qm 2 56] [[],[],[1],[1,2],[1,2,3],[1,2,3,4],[0,1,2,3,4,5],[],[7],[1,2,3,4,5,7,8],[0,1,2,3,4,5,6,7,8,9],[0,1,2,3,4,5,6,7,8,9,10]] [2] [])
 (.ret))))
def e_.m:Fn:={np:=1,body:=e_.b,res:=[.tmp 2]}
def e_.k(M:Nat→Option Body):Prop:=M 123=some (.code e_.m)∧jq.k M∧fE.k M∧ep.k M
def df.l0:C:= .seq (.seq (.ai [Qm 42 5,Qf 43 5 1,Ql 44 43,Q 45 (.len (.t 44)),Q 46 (.bin .lss (.t 42) (.t 45))] [1,4,5,46] [1])
 (.cond (.t 46) (.skip) (.exit 0)))
 (.seq (.block 1 (.seq (.ai [Qf 50 5 1,Ql 51 50,Qm 52 5,Qa 53 4 51 52,QL 54 4 53,Q 55 (.call 122 [.t 54] [] []),Qm 49 55,Qx 56 0 49,Qx 57 1 49,Qm 6 56,Qm 7 57] [1,4,5,6] [1])
 (.ai [Qm 58 4,Qm 59 6,Q 60 (.bin .add (.t 58) (.t 59)),Qm 4 60] [1,4,5] [1])))
 (.ai [Qm 47 5,Q 48 (.bin .add (.t 47) (kI 1)),Qm 5 48] [1,4,5] [1]))
def df.l1:C:= .seq (.seq (.ai [Qm 67 8,Qf 68 6 1,Ql 69 68,Q 70 (.len (.t 69)),Q 71 (.bin .lss (.t 67) (.t 70))] [1,4,8,71] [1])
 (.cond (.t 71) (.skip) (.exit 2)))
 (.seq (.block 3 (.ai [Qm 74 4,Qf 75 6 1,Ql 76 75,Qm 77 8,Qa 78 1 76 77,Ql 79 78,Q 80 (.call 99 [.t 79] [] []),Q 81 (.bin .add (.t 74) (.t 80)),Qm 4 81] [1,4,8] [1]))
 (.ai [Qm 72 8,Q 73 (.bin .add (.t 72) (kI 1)),Qm 8 73] [1,4,8] [1]))
def df.b:C:= .seq (.ai [Qv 1 0,Q 2 (.mv (.k (.str ⟨#[]⟩))),Qb 3 false] [1] [1])
 (.seq (.seq (.ai [QL 9 7 1,Q 10 (.call 88 [.t 9] [] []),Q 11 (.not (.t 10))] [1,11] [1])
 (.cond (.t 11) (.seq (.ai [Q 2 (.mv (.k (.str ⟨#[]⟩))),Qb 3 false] [2,3] [])
 (.ret)) (.skip)))
 (.seq (.gV [Qf 12 0 1,Ql 13 12,Q 14 (.call 99 [.t 13] [] []),Qf 15 1 1,Ql 16 15,Q 17 (.ky (.t 16)),Q 18 (.call 99 [.t 17] [] []),Q 19 (.bin .add (.t 14) (.t 18)),Qf 20 1 1,Ql 21 20,
   Q 22 (.bin .add (.t 19) (.t 21)),Qf 23 2 1,Qf 24 0 23,Ql 25 24,Q 26 (.call 99 [.t 25] [] []),Q 27 (.bin .add (.t 22) (.t 26)),Qf 28 2 1,Qf 29 1 28,Ql 30 29,
   Q 31 (.call 99 [.t 30] [] []),Q 32 (.bin .add (.t 27) (.t 31)),Qf 33 4 1,Ql 34 33,Q 35 (.call 99 [.t 34] [] []),Q 36 (.bin .add (.t 32) (.t 35)),Qf 37 5 1,Ql 38 37,
   Q 39 (.len (.t 38)),Q 40 (.call 99 [.t 39] [] []),Q 41 (.bin .add (.t 36) (.t 40)),Qm 4 41] [[],[0],[0,1],[],[3],[3,4],[0,1,2,3,4,5],[0,1,2,3,4,5,6],[],[8],[0,1,2,3,4,5,6,7,8,9],[],[11],[11,12],[0,1,2,3,4,5,6,11,12,13],[0,1,2,3,4,5,6,7,8,9,10,11,12,13,14],[],[16],[16,17],[0,1,2,3,4,5,6,11,12,13,14,16,17,18],[0,1,2,3,4,5,6,7,8,9,10,11,12,13,14,15,16,17,18,19],[],[21],[0,1,2,3,4,5,6,11,12,13,14,16,17,18,19,21,22],[0,1,2,3,4,5,6,7,8,9,10,11,12,13,14,15,16,17,18,19,20,21,22,23],[],[25],[25,26],[0,1,2,3,4,5,6,11,12,13,14,16,17,18,19,21,22,23,25,26,27],[0,1,2,3,4,5,6,7,8,9,10,11,12,13,14,15,16,17,18,19,20,21,22,23,24,25,26,27,28],[0,1,2,3,4,5,6,7,8,9,10,11,12,13,14,15,16,17,18,19,20,21,22,23,24,25,26,27,28,29]] [1,4] [1])
 (.seq (.seq (.ai [Qi 5 0] [1,4,5] [1])
 (.block 0 (.loop df.l0)))
 (.seq (.ai [Qm 61 4,Qf 62 6 1,Ql 63 62,Q 64 (.len (.t 63)),Q 65 (.call 99 [.t 64] [] []),Q 66 (.bin .add (.t 61) (.t 65)),Qm 4 66] [1,4] [1])
 (.seq (.seq (.ai [Qi 8 0] [1,4,8] [1])
 (.block 2 (.loop df.l1)))
 (.seq (.ai [Qm 82 4,Qm 2 82,Qb 3 true] [2,3] [])
 (.ret)))))))
def df.m:Fn:={np:=1,body:=df.b,res:=[.tmp 2,.tmp 3]}
def df.k(M:Nat→Option Body):Prop:=M 34=some (.code df.m)∧br.k M∧bD.k M∧eh.k M
def ay.l0:C:= .seq (.ai [Q 9 (.bin .lss (.t 8) (.t 7))] [0,1,7,8,9] [])
 (.seq (.cond (.t 9) (.skip) (.exit 0))
 (.seq (.block 1 (.seq (.ai [Qm 10 8,Qm 5 10] [0,1,5,7,8] [])
 (.seq (.ai [Qm 11 1,Qm 12 0,Qm 13 5,Qa 14 7 12 13,QL 15 7 14,Q 16 (.oO (.t 11) [.t 15])] [0,1,5,7,8,16] [])
 (.cond (.t 16) (.seq (.ai [Qm 17 5,Qm 4 17] [4] [])
 (.ret)) (.skip)))))
 (.ai [Q 18 (.bin .add (.t 8) (kI 1)),Qm 8 18] [0,1,7,8] [])))
def ay.b:C:= .seq (.ai [Qi 4 0] [0,1] [])
 (.seq (.seq (.ai [Qm 6 0,Q 7 (.len (.t 6)),Qi 8 0] [0,1,7,8] [])
 (.block 0 (.loop ay.l0)))
 (.seq (.ai [Qi 4 (-1)] [4] [])
 (.ret)))
def ay.m:Fn:={np:=2,body:=ay.b,res:=[.tmp 4]}
def ay.k(M:Nat→Option Body):Prop:=M 200=some (.code ay.m)
def fp.b:C:= .seq (.ai [Qv 2 0,Qb 3 false] [1,2] [2])
 (.seq (.ai [Qf 4 1 2,Ql 5 4,Ql 6 1,Q 7 (.bin .eql (.t 5) (.t 6)),Qm 3 7] [3] [])
 (.ret))
def fp.m:Fn:={np:=2,body:=fp.b,res:=[.tmp 3]}
def fp.k(M:Nat→Option Body):Prop:=M 271=some (.code fp.m)
def dG.b:C:= .seq (.ai [Qv 2 0,Qv 3 1,Qi 4 0] [2,3] [2,3])
 (.seq (.ai [Qf 5 2 2,Ql 6 5,Q 7 (.tL 271 [.t 3]),Q 8 (.call 200 [.t 6,.t 7] [] []),Qm 4 8] [4] [])
 (.ret))
def dG.m:Fn:={np:=2,body:=dG.b,res:=[.tmp 4]}
def dG.k(M:Nat→Option Body):Prop:=M 228=some (.code dG.m)∧ay.k M∧fp.k M
def cG.l1:C:= .seq (.ai [Q 20 (.bin .lss (.t 19) (.t 18))] [1,2,10,11,12,17,18,19,20] [2])
 (.seq (.cond (.t 20) (.skip) (.exit 2))
 (.seq (.block 3 (.seq (.ai [Qa 21 3 17 19,QL 22 3 21,Q 8 (.alloc [.int .i64 0,.int .i64 0,.int .i64 0]),Qs 3 8 22] [1,2,8,10,11,12,17,18,19] [2,8])
 (.seq (.ai [Qf 23 1 8,Qf 24 0 23,Ql 25 24,Qm 26 1,Q 27 (.bin .gtr (.t 25) (.t 26))] [1,2,10,11,12,17,18,19,27] [2])
 (.cond (.t 27) (.seq (.ai [Qb 4 true] [4] [])
 (.ret)) (.skip)))))
 (.ai [Q 28 (.bin .add (.t 19) (kI 1)),Qm 19 28] [1,2,10,11,12,17,18,19] [2])))
def cG.l0:C:= .seq (.ai [Q 13 (.bin .lss (.t 12) (.t 11))] [1,2,10,11,12,13] [2])
 (.seq (.cond (.t 13) (.skip) (.exit 0))
 (.seq (.block 1 (.seq (.ai [Qa 14 4 10 12,QL 15 4 14,Q 6 (.alloc [.int .i64 0,.int .i64 0,.aL 3,.str ⟨#[]⟩]),Qs 4 6 15] [1,2,6,10,11,12] [2,6])
 (.seq (.ai [Qf 16 2 6,Ql 17 16,Q 18 (.len (.t 17)),Qi 19 0] [1,2,10,11,12,17,18,19] [2])
 (.block 2 (.loop cG.l1)))))
 (.ai [Q 29 (.bin .add (.t 12) (kI 1)),Qm 12 29] [1,2,10,11,12] [2])))
def cG.b:C:= .seq (.ai [Qv 2 0,Qb 4 false] [1,2] [2])
 (.seq (.seq (.ai [Qf 9 5 2,Ql 10 9,Q 11 (.len (.t 10)),Qi 12 0] [1,2,10,11,12] [2])
 (.block 0 (.loop cG.l0)))
 (.seq (.ai [Qf 30 2 2,Qf 31 0 30,Ql 32 31,Qm 33 1,Q 34 (.bin .gtr (.t 32) (.t 33)),Qm 4 34] [4] [])
 (.ret)))
def cG.m:Fn:={np:=2,body:=cG.b,res:=[.tmp 4]}
def cG.k(M:Nat→Option Body):Prop:=M 229=some (.code cG.m)
def aK.l1:C:= .seq (.ai [Q 83 (.bin .lss (.t 82) (.t 81))] [1,3,32,33,34,80,81,82,83] [1,30,94])
 (.seq (.cond (.t 83) (.skip) (.exit 2))
 (.seq (.block 3 (.seq (.ai [Qa 84 4 80 82,QL 85 4 84,Q 7 (.alloc [.int .i64 0,.int .i64 0,.aL 3,.str ⟨#[]⟩]),Qs 4 7 85] [1,3,7,32,33,34,80,81,82] [1,7,30,94])
 (.seq (.seq (.ai [Qm 86 3,Qf 87 0 7,Ql 88 87,Q 89 (.call 156 [.t 86,.t 88] [] [])] [1,3,7,32,33,34,80,81,82,89] [1,7,30,94])
 (.cond (.t 89) (.seq (.ai [Qb 2 false] [2] [])
 (.ret)) (.skip)))
 (.ai [Qm 90 3,Qf 91 0 7,Ql 92 91,Q 93 (.bF 1 1 [.int .i64 0] [(0,.t 92)]),Q 94 (.app 1 8 (.t 90) (.t 93)),Qm 3 94] [1,3,32,33,34,80,81,82] [1,30,94]))))
 (.ai [Q 95 (.bin .add (.t 82) (kI 1)),Qm 82 95] [1,3,32,33,34,80,81,82] [1,30,94])))
def aK.l0:C:= .seq (.ai [Q 35 (.bin .lss (.t 34) (.t 33))] [1,3,32,33,34,35] [1,30,94])
 (.seq (.cond (.t 35) (.skip) (.exit 0))
 (.seq (.block 1 (.seq (.ai [Qm 36 34,Qa 37 7 32 34,QL 38 7 37,Q 5 (.alloc [.int .i64 0,.str ⟨#[]⟩,.int .i64 0,.int .i64 0,.int .i64 0,.aL 4,.aL 1]),Qm 4 36,Qs 7 5 38] [1,3,4,5,32,33,34] [1,5,30,94])
 (.seq (.seq (.gV [QL 39 7 5,Q 40 (.call 74 [.t 39] [] []),Q 41 (.not (.t 40)),Qm 42 41,Qg 43 (.mv (.t 4)) 42 false,Qg 44 (.bin .gtr (.t 43) (kI 0)) 42 false,Qg 45 (.mv (.t 44)) 42 false,
   Qg 46 (.bN 2 (.t 1)) 45 true,Qg 47 (.load false 1 (.t 46)) 45 true,Qg 48 (.mv (.t 4)) 45 true,Qg 49 (.bin .sub (.t 48) (kI 1)) 45 true,
   Qg 50 (.kG 7 (.t 47) (.t 49)) 45 true,Qg 51 (.bN 0 (.t 50)) 45 true,Qg 52 (.load false 1 (.t 51)) 45 true,Qg 53 (.bN 0 (.t 5)) 45 true,
   Qg 54 (.load false 1 (.t 53)) 45 true,Qg 55 (.bin .geq (.t 52) (.t 54)) 45 true,Qg 56 (.pick (.t 45) (.t 55) (kB false)) 42 false,Q 57 (.pick (.t 42) (kB true) (.t 56)),
   Qm 58 57,Qg 59 (.load true 4 (.t 1)) 58 false,Qg 60 (.bN 1 (.t 5)) 58 false,Qg 61 (.load false 1 (.t 60)) 58 false,Qg 62 (.call 228 [.t 59,.t 61] [] []) 58 false,
   Qg 63 (.mv (.t 4)) 58 false,Qg 64 (.bin .neq (.t 62) (.t 63)) 58 false,Q 65 (.pick (.t 58) (kB true) (.t 64)),Qm 66 65,Qg 67 (.bN 3 (.t 1)) 66 false,
   Qg 68 (.load false 1 (.t 67)) 66 false,Qg 69 (.bN 0 (.t 5)) 66 false,Qg 70 (.load false 1 (.t 69)) 66 false,Qg 71 (.call 156 [.t 68,.t 70] [] []) 66 false,
   Q 72 (.pick (.t 66) (kB true) (.t 71)),Qm 73 72,Qg 74 (.load true 7 (.t 5)) 73 false,Qg 75 (.bN 1 (.t 1)) 73 false,Qg 76 (.load false 1 (.t 75)) 73 false,
   Qg 77 (.call 229 [.t 74,.t 76] [] []) 73 false,Q 78 (.pick (.t 73) (kB true) (.t 77))] [[],[0],[0,1],[0,1,2],lr 4,lr 5,lr 6,lr 7,lr 8,lr 7,lr 7++[9],lr 11,lr 12,lr 13,lr 7,lr 7++[14],lr 16,lr 17,lr 18,lr 19,lr 20,lr 20,lr 20++[21],lr 23,lr 20,lr 25,lr 26,lr 27,lr 28,lr 29,lr 28,lr 28++[30],lr 32,lr 33,lr 34,lr 35,lr 35,lr 35++[36],lr 38,lr 39] [1,3,5,32,33,34,78] [1,5,30,94])
 (.cond (.t 78) (.seq (.ai [Qb 2 false] [2] [])
 (.ret)) (.skip)))
 (.seq (.ai [Qf 79 5 5,Ql 80 79,Q 81 (.len (.t 80)),Qi 82 0] [1,3,32,33,34,80,81,82] [1,30,94])
 (.block 2 (.loop aK.l1))))))
 (.ai [Q 96 (.bin .add (.t 34) (kI 1)),Qm 34 96] [1,3,32,33,34] [1,30,94])))
def aK.b:C:= .seq (.ai [Qv 1 0,Qb 2 false] [1] [1])
 (.seq (.seq (.ai [Qf 8 0 1,Ql 9 8,Q 10 (.call 101 [.t 9,kI 1,kI 2] [] []),Q 11 (.not (.t 10)),Qm 12 11,Qg 13 (.bN 1 (.t 1)) 12 false,Qg 14 (.load false 1 (.t 13)) 12 false,
   Qg 15 (.call 101 [.t 14,kI 0,kI 100000] [] []) 12 false,Qg 16 (.not (.t 15)) 12 false,Q 17 (.pick (.t 12) (kB true) (.t 16)),Qm 18 17,Qg 19 (.bN 2 (.t 1)) 18 false,
   Qg 20 (.load false 1 (.t 19)) 18 false,Qg 21 (.len (.t 20)) 18 false,Qg 22 (.bin .gtr (.t 21) (kI 5)) 18 false,Q 23 (.pick (.t 18) (kB true) (.t 22)),Qm 24 23,
   Qg 25 (.bN 3 (.t 1)) 24 false,Qg 26 (.load false 1 (.t 25)) 24 false,Qg 27 (.call 165 [.t 26,kI 20] [] []) 24 false,Qg 28 (.not (.t 27)) 24 false,
   Q 29 (.pick (.t 24) (kB true) (.t 28))] [1,29] [1])
 (.cond (.t 29) (.seq (.ai [Qb 2 false] [2] [])
 (.ret)) (.skip)))
 (.seq (.ai [Q 30 (.bF 1 0 [.int .i64 0] []),Qm 3 30] [1,3] [1,30,94])
 (.seq (.seq (.ai [Qf 31 2 1,Ql 32 31,Q 33 (.len (.t 32)),Qi 34 0] [1,3,32,33,34] [1,30,94])
 (.block 0 (.loop aK.l0)))
 (.seq (.ai [Qb 2 true] [2] [])
 (.ret)))))
def aK.m:Fn:={np:=1,body:=aK.b,res:=[.tmp 2]}
def aK.k(M:Nat→Option Body):Prop:=M 150=some (.code aK.m)∧bC.k M∧bP.k M∧aI.k M∧dg.k M∧dG.k M∧cG.k M
def cv.l0:C:= .seq (.seq (.ai [Qm 6 5,Qf 7 2 2,Ql 8 7,Q 9 (.len (.t 8)),Q 10 (.bin .lss (.t 6) (.t 9))] [1,2,5,10] [2])
 (.cond (.t 10) (.skip) (.exit 0)))
 (.seq (.block 1 (.seq (.ai [Qf 13 2 2,Ql 14 13,Qm 15 5,Qa 16 7 14 15,Qf 17 1 16,Ql 18 17,Qm 19 1,Q 20 (.bin .eql (.t 18) (.t 19))] [1,2,5,20] [2])
 (.cond (.t 20) (.seq (.ai [Qm 21 5,Qm 4 21] [4] [])
 (.ret)) (.skip))))
 (.ai [Qm 11 5,Q 12 (.bin .add (.t 11) (kI 1)),Qm 5 12] [1,2,5] [2]))
def cv.b:C:= .seq (.ai [Qv 2 0,Qi 4 0] [1,2] [2])
 (.seq (.seq (.ai [Qi 5 0] [1,2,5] [2])
 (.block 0 (.loop cv.l0)))
 (.seq (.ai [Qi 4 (-1)] [4] [])
 (.ret)))
def cv.m:Fn:={np:=2,body:=cv.b,res:=[.tmp 4]}
def cv.k(M:Nat→Option Body):Prop:=M 226=some (.code cv.m)
def bO.l1:C:= .seq (.seq (.ai [Qm 19 6,Qf 20 5 2,Ql 21 20,Qm 22 5,Qa 23 4 21 22,Qf 24 2 23,Ql 25 24,Q 26 (.len (.t 25)),Q 27 (.bin .lss (.t 19) (.t 26))] [1,2,5,6,27] [2])
 (.cond (.t 27) (.skip) (.exit 2)))
 (.seq (.block 3 (.seq (.ai [Qf 30 5 2,Ql 31 30,Qm 32 5,Qa 33 4 31 32,Qf 34 2 33,Ql 35 34,Qm 36 6,Qa 37 3 35 36,Qf 38 1 37,Qf 39 0 38,Ql 40 39,Qm 41 1,Q 42 (.bin .gtr (.t 40) (.t 41))] [1,2,5,6,42] [2])
 (.cond (.t 42) (.seq (.ai [Qb 4 false] [4] [])
 (.ret)) (.skip))))
 (.ai [Qm 28 6,Q 29 (.bin .add (.t 28) (kI 1)),Qm 6 29] [1,2,5,6] [2]))
def bO.l0:C:= .seq (.seq (.ai [Qm 12 5,Qf 13 5 2,Ql 14 13,Q 15 (.len (.t 14)),Q 16 (.bin .lss (.t 12) (.t 15))] [1,2,5,16] [2])
 (.cond (.t 16) (.skip) (.exit 0)))
 (.seq (.block 1 (.seq (.ai [Qi 6 0] [1,2,5,6] [2])
 (.block 2 (.loop bO.l1))))
 (.ai [Qm 17 5,Q 18 (.bin .add (.t 17) (kI 1)),Qm 5 18] [1,2,5] [2]))
def bO.b:C:= .seq (.ai [Qv 2 0,Qb 4 false] [1,2] [2])
 (.seq (.seq (.ai [Qf 7 2 2,Qf 8 0 7,Ql 9 8,Qm 10 1,Q 11 (.bin .gtr (.t 9) (.t 10))] [1,2,11] [2])
 (.cond (.t 11) (.seq (.ai [Qb 4 false] [4] [])
 (.ret)) (.skip)))
 (.seq (.seq (.ai [Qi 5 0] [1,2,5] [2])
 (.block 0 (.loop bO.l0)))
 (.seq (.ai [Qb 4 true] [4] [])
 (.ret))))
def bO.m:Fn:={np:=2,body:=bO.b,res:=[.tmp 4]}
def bO.k(M:Nat→Option Body):Prop:=M 227=some (.code bO.m)
def aJ.l1:C:= .seq (.seq (.ai [Qm 83 6,Qf 84 5 5,Ql 85 84,Q 86 (.len (.t 85)),Q 87 (.bin .lss (.t 83) (.t 86))] [1,3,4,5,6,87] [1,5,29,106])
 (.cond (.t 87) (.skip) (.exit 2)))
 (.seq (.block 3 (.seq (.seq (.ai [Qm 90 3,Qf 91 5 5,Ql 92 91,Qm 93 6,Qa 94 4 92 93,Qf 95 0 94,Ql 96 95,Q 97 (.call 132 [.t 90,.t 96] [] [])] [1,3,4,5,6,97] [1,5,29,106])
 (.cond (.t 97) (.seq (.ai [Qb 2 false] [2] [])
 (.ret)) (.skip)))
 (.ai [Qm 98 3,Qf 99 5 5,Ql 100 99,Qm 101 6,Qa 102 4 100 101,Qf 103 0 102,Ql 104 103,Q 105 (.bF 1 1 [.int .i64 0] [(0,.t 104)]),Q 106 (.app 1 8 (.t 98) (.t 105)),Qm 3 106] [1,3,4,5,6] [1,5,29,106])))
 (.ai [Qm 88 6,Q 89 (.bin .add (.t 88) (kI 1)),Qm 6 89] [1,3,4,5,6] [1,5,29,106]))
def aJ.l0:C:= .seq (.seq (.ai [Qm 30 4,Qf 31 2 1,Ql 32 31,Q 33 (.len (.t 32)),Q 34 (.bin .lss (.t 30) (.t 33))] [1,3,4,34] [1,29,106])
 (.cond (.t 34) (.skip) (.exit 0)))
 (.seq (.block 1 (.seq (.ai [Qf 37 2 1,Ql 38 37,Qm 39 4,Qa 40 7 38 39,QL 41 7 40,Q 5 (.alloc [.int .i64 0,.str ⟨#[]⟩,.int .i64 0,.int .i64 0,.int .i64 0,.aL 4,.aL 1]),Qs 7 5 41] [1,3,4,5] [1,5,29,106])
 (.seq (.seq (.gV [QL 42 7 5,Q 43 (.call 88 [.t 42] [] []),Q 44 (.not (.t 43)),Qm 45 44,Qg 46 (.mv (.t 4)) 45 false,Qg 47 (.bin .gtr (.t 46) (kI 0)) 45 false,Qg 48 (.mv (.t 47)) 45 false,
   Qg 49 (.bN 2 (.t 1)) 48 true,Qg 50 (.load false 1 (.t 49)) 48 true,Qg 51 (.mv (.t 4)) 48 true,Qg 52 (.bin .sub (.t 51) (kI 1)) 48 true,
   Qg 53 (.kG 7 (.t 50) (.t 52)) 48 true,Qg 54 (.bN 0 (.t 53)) 48 true,Qg 55 (.load false 1 (.t 54)) 48 true,Qg 56 (.bN 0 (.t 5)) 48 true,
   Qg 57 (.load false 1 (.t 56)) 48 true,Qg 58 (.bin .geq (.t 55) (.t 57)) 48 true,Qg 59 (.pick (.t 48) (.t 58) (kB false)) 45 false,Q 60 (.pick (.t 45) (kB true) (.t 59)),
   Qm 61 60,Qg 62 (.load true 4 (.t 1)) 61 false,Qg 63 (.bN 1 (.t 5)) 61 false,Qg 64 (.load false 1 (.t 63)) 61 false,Qg 65 (.call 226 [.t 62,.t 64] [] []) 61 false,
   Qg 66 (.mv (.t 4)) 61 false,Qg 67 (.bin .neq (.t 65) (.t 66)) 61 false,Q 68 (.pick (.t 61) (kB true) (.t 67)),Qm 69 68,Qg 70 (.bN 3 (.t 1)) 69 false,
   Qg 71 (.load false 1 (.t 70)) 69 false,Qg 72 (.bN 0 (.t 5)) 69 false,Qg 73 (.load false 1 (.t 72)) 69 false,Qg 74 (.call 132 [.t 71,.t 73] [] []) 69 false,
   Q 75 (.pick (.t 69) (kB true) (.t 74)),Qm 76 75,Qg 77 (.load true 7 (.t 5)) 76 false,Qg 78 (.bN 1 (.t 1)) 76 false,Qg 79 (.load false 1 (.t 78)) 76 false,
   Qg 80 (.call 227 [.t 77,.t 79] [] []) 76 false,Qg 81 (.not (.t 80)) 76 false,Q 82 (.pick (.t 76) (kB true) (.t 81))] [[],[0],[0,1],[0,1,2],lr 4,lr 5,lr 6,lr 7,lr 8,lr 7,lr 7++[9],lr 11,lr 12,lr 13,lr 7,lr 7++[14],lr 16,lr 17,lr 18,lr 19,lr 20,lr 20,lr 20++[21],lr 23,lr 20,lr 25,lr 26,lr 27,lr 28,lr 29,lr 28,lr 28++[30],lr 32,lr 33,lr 34,lr 35,lr 35,lr 35++[36],lr 38,lr 39,lr 40] [1,3,4,5,82] [1,5,29,106])
 (.cond (.t 82) (.seq (.ai [Qb 2 false] [2] [])
 (.ret)) (.skip)))
 (.seq (.ai [Qi 6 0] [1,3,4,5,6] [1,5,29,106])
 (.block 2 (.loop aJ.l1))))))
 (.ai [Qm 35 4,Q 36 (.bin .add (.t 35) (kI 1)),Qm 4 36] [1,3,4] [1,29,106]))
def aJ.b:C:= .seq (.ai [Qv 1 0,Qb 2 false] [1] [1])
 (.seq (.seq (.ai [Qf 7 0 1,Ql 8 7,Q 9 (.call 98 [.t 8,kI 1,kI 2] [] []),Q 10 (.not (.t 9)),Qm 11 10,Qg 12 (.bN 1 (.t 1)) 11 false,Qg 13 (.load false 1 (.t 12)) 11 false,
   Qg 14 (.call 98 [.t 13,kI 0,kI 100000] [] []) 11 false,Qg 15 (.not (.t 14)) 11 false,Q 16 (.pick (.t 11) (kB true) (.t 15)),Qm 17 16,Qg 18 (.bN 2 (.t 1)) 17 false,
   Qg 19 (.load false 1 (.t 18)) 17 false,Qg 20 (.len (.t 19)) 17 false,Qg 21 (.bin .gtr (.t 20) (kI 5)) 17 false,Q 22 (.pick (.t 17) (kB true) (.t 21)),Qm 23 22,
   Qg 24 (.bN 3 (.t 1)) 23 false,Qg 25 (.load false 1 (.t 24)) 23 false,Qg 26 (.call 186 [.t 25,kI 20] [] []) 23 false,Qg 27 (.not (.t 26)) 23 false,
   Q 28 (.pick (.t 23) (kB true) (.t 27))] [1,28] [1])
 (.cond (.t 28) (.seq (.ai [Qb 2 false] [2] [])
 (.ret)) (.skip)))
 (.seq (.ai [Q 29 (.bF 1 0 [.int .i64 0] []),Qm 3 29] [1,3] [1,29,106])
 (.seq (.seq (.ai [Qi 4 0] [1,3,4] [1,29,106])
 (.block 0 (.loop aJ.l0)))
 (.seq (.ai [Qb 2 true] [2] [])
 (.ret)))))
def aJ.m:Fn:={np:=1,body:=aJ.b,res:=[.tmp 2]}
def aJ.k(M:Nat→Option Body):Prop:=M 149=some (.code aJ.m)∧br.k M∧bE.k M∧bf.k M∧cq.k M∧cv.k M∧bO.k M
def eR.b:C:= .seq (.ai [Q 2 (.nil 1)] [0] [])
 (.seq (.ai [Q 3 (.bF 1 0 [.int .i64 0] []),Qm 4 0,Q 5 (.app 1 8 (.t 3) (.t 4)),Qm 2 5] [2] [2,3,5])
 (.ret))
def eR.m:Fn:={np:=1,body:=eR.b,res:=[.tmp 2]}
def eR.k(M:Nat→Option Body):Prop:=M 134=some (.code eR.m)
end Mx
namespace Mx
open Go Go.RowKit
def x0(F:Nat→FuncId)(w:World):Cx:={w:=w,U:=fun _=>False,E:=fun _=>none,F:=F}
theorem DO{P:Program}{F:Nat→FuncId}{M:Nat→Option Body}(hM:sB P F M){f:Nat}{as:List V}{b:Bool}(h:run M f as []=some (.c (.bool b),[])){vals:Array Value}{w:World}
  (hG:CH F (fun _=>False) w) (hn:as.length=vals.size) (hr:∀(i:Nat) (v:V) (x:Value),as[i]? =some v→vals[i]? =some x→kQ (x0 F w) v x):
  Calls P (F f) vals w fun e W'=>e= .returned (.bool b)∧Below w.heap.size w W':=by
 obtain⟨_,hc⟩:=JI hM f as [] _ _ h;have K:mH (x0 F w) (cx F (fun _=>False) (fun _=>none) [] w):=by
  refine⟨rfl,fun v l h=>(by cases h),fun ad v _ hcell=>⟨hcell, ?_⟩⟩;rintro (⟨id,ob,cap,sz,g1,_⟩|h)
  ·simp[get] at g1
  ·exact h
 have En:Entry F (fun _=>False) (fun _=>none) as [] vals w:=
  ⟨hn,fun i v x h1 h2=>(hr i v x h1 h2).mono K,fun p ob h=>(by simp[get] at h),fun p ob b cap sz h=>(by simp[get] at h),fun p p2 ob ob2 b cap sz cap2 sz2 h=>(by simp[get] at h),fun v l h=>(by cases h),⟨fun b h=>h.elim,hG.imp id fun g=>⟨g.1,fun⟨p,ob,cap,sz,h1,_⟩=>by simp[get] at h1,g.2.2⟩⟩⟩
 refine(hc (fun _=>False) (fun _=>none) vals w En).mono ?_;rintro e w' ⟨val,E',own,rfl,B⟩;have hres:=B.res;have hv:val= .bool b:=by
  simp only[yl,vZ] at hres;cases hres with|bool b=>rfl
 refine⟨by rw[hv],B.os,B.tape,B.output,B.size,fun k hk=>B.frame k hk ?_⟩;rintro ⟨p,ob,cap,sz,h1,_⟩;simp[get] at h1
end Mx
namespace Mx
open Go
inductive Ct where
 |int (k:IntKind)
 |bool
 |str
 |sl (row:List Ct)
inductive Has:Ct→T→Prop
 |int (k:IntKind) (n:Int) (h:(Lit.int k n).wf=true):Has (.int k) (.int k n)
 |bool (b:Bool):Has .bool (.bool b)
 |str (s:ByteArray) (h:s.size≤maxLen):Has .str (.str s)
 |sl (row:List Ct) (rows:List (List T)) (hl:rows.length≤maxLen) (h:∀(i:Nat) (r:List T),rows[i]? =some r→r.length=row.length)
   (h2:∀(i j:Nat) (r:List T) (c:Ct) (t:T),rows[i]? =some r→row[j]? =some c→r[j]? =some t→Has c t):Has (.sl row) (.sl false row.length rows)
def rA(cs:List Ct)(ts:List T):Prop:=ts.length=cs.length∧∀(j:Nat) (c:Ct) (t:T),cs[j]? =some c→ts[j]? =some t→Has c t
mutual
def zw(P:Program):Nat→Ct→TypeId→Bool
 |0,_,_=>false
 |_+1,.int k,t=>xh P t k
 |_+1,.bool,t=>we P t
 |_+1,.str,t=>rL P t
 |f+1,.sl row,t=>match iH P t with|some e=>wY P f row e&&(P.cellsOf e==row.length)|none=>false
def wY(P:Program):Nat→List Ct→TypeId→Bool
 |0,_,_=>false
 |f+1,cs,t=>match pI P t with
  |some fs=>(P.cellsOf t==cs.length)&&p9 P f 0 cs fs.toList
  |none=>match cs with|[c]=>zw P f c t|_=>false
def p9(P:Program):Nat→Nat→List Ct→List Field→Bool
 |0,_,_,_=>false
 |_+1,_,cs,[]=>cs.isEmpty
 |f+1,off,cs,fd::fs=>(fd.offset==off)&&decide (P.cellsOf fd.type≤cs.length)&&wY P f (cs.take (P.cellsOf fd.type)) fd.type&&p9 P f (off+P.cellsOf fd.type) (cs.drop (P.cellsOf fd.type)) fs
end
variable {P:Program} {F:Nat→FuncId} {w:World} {H:Type} {enc:TypeId×Value→H} {base:Nat} {sp:Nat→Bool} {held:Bool}
theorem rA.one{c:Ct}{t:T}(h:Has c t):rA [c] [t]:=⟨rfl,fun j c' t' h1 h2=>by
 cases j with
 |zero=>simp at h1 h2;subst h1 h2;exact h
 |succ j=>simp at h1⟩
theorem rA.append{cs ds:List Ct}{ts us:List T}(h:rA cs ts)(k:rA ds us):rA (cs++ds) (ts++us):=by
 refine⟨by simp[h.1,k.1],fun j c t h1 h2=> ?_⟩;rw[dB] at h1 h2;rw[h.1] at h2;split at h1
 ·rename_i hj;rw[if_pos hj] at h2;exact h.2 j c t h1 h2
 ·rename_i hj;rw[if_neg hj] at h2;exact k.2 _ c t h1 h2
theorem yp:∀(f:Nat),
  (∀(c:Ct) (t:TypeId) (vs:List Value) (fuel:Nat) (x:DataW H×List MemPlace),zw P f c t=true→DataW.trod enc P w base sp held fuel t vs=some x→∃u v,vs=[v]∧Has c u∧j7 (x0 F w) u v)∧
  (∀(cs:List Ct) (t:TypeId) (vs:List Value) (fuel:Nat) (x:DataW H×List MemPlace),wY P f cs t=true→DataW.trod enc P w base sp held fuel t vs=some x→∃ts,rA cs ts∧g_ (x0 F w) ts vs)∧
  (∀(off:Nat) (cs:List Ct) (fs:List Field) (vs:List Value),p9 P f off cs fs=true→vs.length=off+cs.length→
   (∀fd∈fs,∃n x,DataW.trod enc P w base sp held n fd.type ((vs.drop fd.offset).take (P.cellsOf fd.type))=some (x:DataW H×List MemPlace))→∃ts,rA cs ts∧g_ (x0 F w) ts (vs.drop off)):=by
 intro f
 induction f with
 |zero=>exact⟨fun c t vs fuel x h=>by simp[zw] at h,fun cs t vs fuel x h=>by simp[wY] at h,fun off cs fs vs h=>by simp[p9] at h⟩
 |succ f ih=>
  obtain⟨ih1,ih2,ih3⟩:=ih;have A:∀(c:Ct) (t:TypeId) (vs:List Value) (fuel:Nat) (x:DataW H×List MemPlace),zw P (f+1) c t=true→DataW.trod enc P w base sp held fuel t vs=some x→∃u v,vs=[v]∧Has c u∧j7 (x0 F w) u v:=by
   intro c t vs fuel x hok h;cases fuel with
   |zero=>simp[DataW.trod] at h
   |succ n=>
    cases c with
    |int k=>
     have hu:=wc hok;unfold DataW.trod at h;rw[hu] at h;split at h<;>simp_all
     rename_i k' m;obtain⟨⟨rfl,hwf⟩,_⟩:=h;exact⟨_,.int _ _ hwf,.int _ _⟩
    |bool=>
     have hu:=xi hok;unfold DataW.trod at h;rw[hu] at h;split at h<;>simp_all
     exact⟨_,.bool _,.bool _⟩
    |str=>
     have hu:=sq hok;unfold DataW.trod at h;rw[hu] at h;split at h<;>simp_all
     exact⟨_,.str _ h.1,.str _⟩
    |sl row=>
     simp only[zw] at hok;split at hok
     ·rename_i e he;simp only[aj,beq_iff_eq] at hok;rcases Go.Deep.open_slice (jX he) h with⟨rfl,_⟩|⟨a,len,cap,m,n',D,Pl,rfl,hb,hl,hm,hmm,_,hx⟩
      ·exact⟨.sl false row.length [],_,rfl,.sl row [] (by simp) (fun i r h=>by simp at h) (fun i j r c t h=>by simp at h),j7.empty _ _ _ _⟩
      ·have hlm:len≤m:=by rw[hmm];split<;>omega
       have each:∀i,i<len→∃r cs',rA row r∧g_ (x0 F w) r cs'∧∀q,q<row.length→w.cell? ((a.add (i*row.length)).add q)=cs'[q]? :=by
        intro i hi;obtain⟨cs',h1,h2⟩:=hx i (by omega);obtain⟨r,h3,h4⟩:=ih2 row e cs' n' _ hok.1 h2;obtain⟨_,h5,h6⟩:=World.cells?_some h1;rw[hok.2] at h6;exact⟨r,cs',h3,h4,h6⟩
       have hrows:∀k,k≤len→∃rows:List (List T),rows.length=k∧∀i r,rows[i]? =some r→∃cs',rA row r∧g_ (x0 F w) r cs'∧∀q,q<row.length→w.cell? ((a.add (i*row.length)).add q)=cs'[q]? :=by
        intro k
        induction k with
        |zero=>intro _;exact⟨[],rfl,fun i r h=>by simp at h⟩
        |succ k ihl=>
         intro hk;obtain⟨rows,h1,h2⟩:=ihl (by omega);obtain⟨r,cs',h3,h4,h5⟩:=each k (by omega);refine⟨rows++[r],by simp[h1],fun i r' hr=> ?_⟩;rw[dB] at hr;split at hr
         ·exact h2 i r' hr
         ·rename_i hge;have:i-rows.length=0:=by
           rcases Nat.eq_zero_or_pos (i-rows.length) with q|q
           ·exact q
           ·rw[jn (by simp;omega)] at hr;cases hr
          rw[this] at hr;simp at hr;subst hr;have:i=k:=by omega
          subst this;exact⟨cs',h3,h4,h5⟩
       obtain⟨rows,hlen,hrow⟩:=hrows len (Nat.le_refl _);have key:∀(i j:Nat) (r:List T) (t:T),rows[i]? =some r→r[j]? =some t→∃v,w.cell? (a.add (i*row.length+j))=some v∧j7 (x0 F w) t v:=by
        intro i j r t hi hj;obtain⟨cs',h3,h4,h5⟩:=hrow i r hi;have hjl:j<r.length:=(List.getElem?_eq_some_iff.1 hj).1;have h6:=h5 j (by rw[←h3.1];exact hjl);have hjc:j<cs'.length:=by rw[←h4.1];exact hjl
        rw[add_add] at h6;refine⟨cs'[j],by rw[h6];simp[hjc],h4.2 j t cs'[j] hj (by simp[hjc])⟩
       have hcl:∀(c:Ct) (t:T),Has c t→ff t:=by
        intro c t h
        induction h with
        |int=>exact .int _ _
        |bool=>exact .bool _
        |str=>exact .str _
        |sl row rows hl h h2 ih=>
         refine .sl _ _ _ fun i j r t hr ht=> ?_
         have hj:j<row.length:=by rw[←h i r hr];exact(List.getElem?_eq_some_iff.1 ht).1
         exact ih i j r row[j] t hr (by simp[hj]) ht
       refine⟨.sl false row.length rows,_,rfl,.sl row rows (by omega) (fun i r hr=>(hrow i r hr).choose_spec.1.1) (fun i j r c t hr hc ht=>(hrow i r hr).choose_spec.1.2 j c t hc ht), ?_⟩;have:=j7.sl (X:=x0 F w) false row.length rows (some a) cap (fun i j=>(w.cell? (a.add (i*row.length+j))).getD undef) (by omega) (fun i r hr=>(hrow i r hr).choose_spec.1.1)
        (fun i j r t hr ht=>by obtain⟨v,h1,_⟩:=key i j r t hr ht;exact⟨a,rfl,fun h=>h,by show w.cell? _=_;rw[h1];rfl⟩)
        (fun i j r t hr ht=>by obtain⟨v,h1,h2⟩:=key i j r t hr ht;rw[h1];exact h2)
        (fun i j r t hr ht=>by
         obtain⟨cs',h3,_⟩:=hrow i r hr;have hj:j<row.length:=by rw[←h3.1];exact(List.getElem?_eq_some_iff.1 ht).1
         exact hcl _ _ (h3.2 j row[j] t (by simp[hj]) ht))
       rw[hlen] at this;exact this
     ·cases hok
  refine⟨A, ?_, ?_⟩
  ·intro cs t vs fuel x hok h;simp only[wY] at hok;split at hok
   ·rename_i fs hfs;simp only[aj,beq_iff_eq] at hok;obtain⟨xs,n,_,_,hlen,hxl,hxs⟩:=DataW.trod_struct (pZ hfs) h;obtain⟨ts,h1,h2⟩:=ih3 0 cs fs.toList vs hok.2 (by omega) (fun fd hfd=>by
     obtain⟨i,hi⟩:=List.getElem?_of_mem hfd;have hi':fs[i]? =some fd:=by simpa using hi
     have:=hxs i fd hi';have hlt:i<xs.length:=by rw[hxl];exact(Array.getElem?_eq_some_iff.1 hi').1
     exact⟨n,xs[i],by rw[this];simp[hlt]⟩)
    exact⟨ts,h1,by simpa using h2⟩
   ·split at hok
    ·rename_i c;obtain⟨u,v,rfl,h1,h2⟩:=ih1 c t vs fuel x hok h;exact⟨[u],.one h1,.cons h2 (.nil _)⟩
    ·cases hok
  ·intro off cs fs vs hok hlen hfd;cases fs with
   |nil=>
    simp only[p9,List.isEmpty_iff] at hok;subst hok;refine⟨[],⟨rfl,fun j c t h=>by simp at h⟩, ?_⟩;rw[dY (by simp at hlen;omega)];exact .nil _
   |cons fd fs=>
    simp only[p9,aj,beq_iff_eq,decide_eq_true_eq] at hok;obtain⟨⟨⟨h1,hk⟩,h2⟩,h3⟩:=hok;obtain⟨n,x,hx⟩:=hfd fd (bl ..);obtain⟨ts1,k1,k2⟩:=ih2 _ _ _ _ _ h2 hx;have hl1:=k1.1;have hl2:=k2.1;rw[h1] at k2 hl2;obtain⟨ts2,m1,m2⟩:=ih3 (off+P.cellsOf fd.type) (cs.drop (P.cellsOf fd.type)) fs vs h3 (by simp;omega) (fun fd' h=>hfd fd' (bo _ h));refine⟨ts1++ts2, ?_, ?_⟩
    ·have:=k1.append m1
     rwa [da] at this
    ·have:=k2.append m2;rw[←List.drop_drop,da] at this;exact this
theorem Cz{f:Nat}{cs:List Ct}{t:TypeId}{fs:Array Field}{v:Value}{d:DataW H}{ps:List MemPlace}{r:Reach}{b:Nat}{w':World}(hs:pI P t=some fs)(hok:wY P f cs t=true)
  (hv:Value.okWide P w' r b t v) (h:DataW.Trod enc P w base sp held t v d ps):∃ts,rA cs ts∧kQ (x0 F w) (.a ts) v:=by
 obtain⟨fuel,h⟩:=h;obtain⟨ts,h1,h2⟩:=(yp (F:=F) f).2.1 cs t _ fuel _ hok h;unfold Value.okWide at hv;rw[pZ hs] at hv;obtain⟨vs,rfl,_⟩:=hv;refine⟨ts,h1, ?_⟩;have:=kQ.KB h2;simpa [Value.cells] using this
theorem Ec{v u:Value}(h:v.cells.toList=[u])(hn:∀cs,v≠.agg cs):v=u:=by
 cases v with
 |agg cs=>exact(hn cs rfl).elim
 |_=>simp[Value.cells] at h;exact h
theorem Gu{f:Nat}{c:Ct}{t:TypeId}{v:Value}{d:DataW H}{ps:List MemPlace}{r:Reach}{b:Nat}{w':World}(hok:zw P f c t=true)
  (hv:Value.okWide P w' r b t v) (h:DataW.Trod enc P w base sp held t v d ps):∃u,Has c u∧j7 (x0 F w) u v:=by
 obtain⟨fuel,h⟩:=h;obtain⟨u,x,h0,h1,h2⟩:=(yp (F:=F) f).1 c t _ fuel _ hok h;have:v=x:=by
  refine Ec h0 fun cs e=> ?_
  subst e;cases f with
  |zero=>simp[zw] at hok
  |succ f=>
   cases c with
   |int k=>simp[Value.okWide,Cell.okWide,wc hok,Cell.ok] at hv
   |bool=>simp[Value.okWide,Cell.okWide,xi hok,Cell.ok] at hv
   |str=>simp[Value.okWide,Cell.okWide,sq hok,Cell.ok] at hv
   |sl row=>
    simp only[zw] at hok;split at hok
    ·rename_i e he;simp[Value.okWide,Cell.okWide,jX he,Cell.ok] at hv
    ·cases hok
 rw[this];exact⟨u,h1,h2⟩
end Mx
